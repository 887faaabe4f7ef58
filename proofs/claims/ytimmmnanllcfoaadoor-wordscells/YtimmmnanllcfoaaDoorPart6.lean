/- What is proved: the law WordsCells returns true for every input. Conditions: none beyond the card's own.
   Texts: Q41i, Q41j, Q41k, Q41l, Q41m, Q41n, Q41o, Q41p, Q41q, Q41r, Q41s, Q41t.
-/
import Derived.Test.YtimmmnanllcfoaaDoorPart5
import Derived.Test.YtimmmnanllcfoaaDoorCards
import Derived.Test.YtimmmnanllcfoaaDoorTie
import Derived.SizedLaws
import Derived.ChangeAt
import Derived.SevenTiedAt
import Derived.Stop.Joined
import Derived.Lay
namespace Go.Itp
def AC.l:AC→AC
 | .seq a _=>a
 |x=>x
def AC.r:AC→AC
 | .seq _ b=>b
 |x=>x
def AC.b:AC→AC
 | .block _ b=>b
 |x=>x
end Go.Itp
namespace Go.Proofs.YtimmmnanllcfoaaDoor
open Go Go.Itp
set_option maxRecDepth 100000
set_option maxHeartbeats 400000
set_option linter.unusedSimpArgs false
set_option linter.unusedVariables false
abbrev stiB (x:Sti):Go.Itp.Obj:= .box 48 1 [.sc (.int .u8 x.kind),.sc (.bool x.purl),.sc (.int .i64 x.a),.sc (.int .i64 x.b)]
def rdB:AC:=AC.b (AC.l (AC.r (AC.r c32l0)))
def rdT1:AC:=AC.r (AC.r (AC.r (AC.r (AC.r (AC.r rdB)))))
def rdT2:AC:=AC.r rdT1
theorem phraseS_ne {x:Sti} {m:Int} {s:List UInt8}:(¬ (⟨(phraseS x m).toArray⟩:ByteArray)=⟨s.toArray⟩)↔phraseS x m ≠ s:=by rw[mk_inj]
section
variable (w:World) (n:Nat)
theorem read_chk (G:V) {fr:List (Nat × V)} {C:Ctx} (hC:C.E=EN w (n+7)) (s:List UInt8) (hs:s.length≤100000) (x:Sti) (hx:x.kind<256) (j k:Int) (m:Int) (r:List UInt8) (hr:r.length≤100000) {T S:AC} (hT:T=rdT2) {P:VPost}
  (hgo:candC x (m,r) s=none→gK C [KF.seq S] .normal [(0,strV s),(2,.ptr 0 0),(5,.sc (.int .u8 k)),(7,.ptr 1 0),(8,.sc (.int .i64 m)),(20,.sc (.int .i64 j)),(106,.sc (.bool false))] ⟨[(1,stiB x),(0,stiB sti0)],2,0⟩ P)
  (hret:∀ fr st,candC x (m,r) s=some (x,m)→aget fr 2=some (.ptr 0 0)→aget fr 3=some (.sc (.int .i64 m))→aget fr 4=some (.sc (.bool true))→aget st.own 0=some (stiB x)→st.ro=0→P .ret fr st)
  (hfr:fr= [(0,strV s),(2,.ptr 0 0),(5,.sc (.int .u8 k)),(7,.ptr 1 0),(8,.sc (.int .i64 m)),(12,strV r),(20,.sc (.int .i64 j))]∨fr= [(0,strV s),(2,.ptr 0 0),(5,.sc (.int .u8 k)),(7,.ptr 1 0),(8,.sc (.int .i64 m)),(12,strV r),(14,G),(20,.sc (.int .i64 j)),(77,.sc (.bool false))]):
  gK C [KF.seq T,KF.block 3,KF.seq S] .normal fr ⟨[(1,stiB x),(0,stiB sti0)],2,0⟩ P:=by
 rcases hfr with hfr|hfr<;>subst hfr
 all_goals
  have hck:=scheck_p w (n+5) x hx
  have hph:=fun h1 h2 h3=>phrase_p w (n+4) x h1 m h2 h3
  have hn:¬ (r= []∧(1≤m∧m≤200)∧StiP x∧phraseS x m=s)→candC x (m,r) s=none:=fun h=>by unfold candC;rw[if_neg h]
  have hy:(r= []∧(1≤m∧m≤200)∧StiP x∧phraseS x m=s)→candC x (m,r) s=some (x,m):=fun h=>by unfold candC;rw[if_pos h]
  have hemp:((⟨r.toArray⟩:ByteArray)=⟨#[]⟩)=(r= []):=mk_inj r []
  generalize candC x (m,r) s=cc at*
  subst hT
  by_cases h1:r= []
  case neg=>
   have hgo:=hgo (hn fun h=>h1 h.1)
   obtain ⟨xk,xp,xa,xb⟩:=x
   simp (disch:=first|omega|assumption|exact bd (by with_unfolding_all rfl)|exact Or.inl rfl|(simp only[VVlen]<;>omega)|fail) only[O1,WA,Nat.reduceEqDiff,Nat.reduceLT,↓reduceIte,reduceCtorEq,rdT2,rdT1,rdB,AC.r,AC.l,AC.b,c32l0,hemp,h1]
   exact hgo
  by_cases h2:1≤m
  case neg=>
   have hgo:=hgo (hn fun h=>h2 h.2.1.1)
   obtain ⟨xk,xp,xa,xb⟩:=x
   simp (disch:=first|omega|assumption|exact bd (by with_unfolding_all rfl)|exact Or.inl rfl|(simp only[VVlen]<;>omega)|fail) only[O1,WA,Nat.reduceEqDiff,Nat.reduceLT,↓reduceIte,reduceCtorEq,rdT2,rdT1,rdB,AC.r,AC.l,AC.b,c32l0,hemp,h1]
   all_goals try (exfalso;omega)
   exact hgo
  by_cases h3:m≤200
  case neg=>
   have hgo:=hgo (hn fun h=>h3 h.2.1.2)
   obtain ⟨xk,xp,xa,xb⟩:=x
   simp (disch:=first|omega|assumption|exact bd (by with_unfolding_all rfl)|exact Or.inl rfl|(simp only[VVlen]<;>omega)|fail) only[O1,WA,Nat.reduceEqDiff,Nat.reduceLT,↓reduceIte,reduceCtorEq,rdT2,rdT1,rdB,AC.r,AC.l,AC.b,c32l0,hemp,h1]
   all_goals try (exfalso;omega)
   exact hgo
  cases h4:stiOK x with
  |false=>
   have hgo:=hgo (hn fun h=>by rw[stiOK_iff.2 h.2.2.1] at h4;cases h4)
   rw[h4,if_neg (by decide)] at hck
   obtain ⟨xk,xp,xa,xb⟩:=x
   simp (disch:=first|omega|assumption|exact bd (by with_unfolding_all rfl)|exact Or.inl rfl|(simp only[VVlen]<;>omega)|fail) only[O1,WA,Nat.reduceEqDiff,Nat.reduceLT,↓reduceIte,reduceCtorEq,rdT2,rdT1,rdB,AC.r,AC.l,AC.b,c32l0,hemp,h1]
   all_goals try (exfalso;omega)
   refine callV_flat (by rw[hC];exact hck.flat rfl rfl) ?_
   simp (disch:=first|omega|assumption|exact bd (by with_unfolding_all rfl)|exact Or.inl rfl|(simp only[VVlen]<;>omega)|fail) only[O1,WA,Nat.reduceEqDiff,Nat.reduceLT,Int.reduceEq,↓reduceIte,reduceCtorEq]
   exact hgo
  |true=>
   have hP:=stiOK_iff.1 h4
   rw[h4,if_pos rfl] at hck
   have hph:=hph hP h2 (by omega)
   by_cases h5:phraseS x m=s
   ·have hret:=fun fr st=>hret fr st (hy ⟨h1,⟨h2,h3⟩,hP,h5⟩)
    rw[h5] at hph
    clear hgo hn hy
    obtain ⟨xk,xp,xa,xb⟩:=x
    simp (disch:=first|omega|assumption|exact bd (by with_unfolding_all rfl)|exact Or.inl rfl|(simp only[VVlen]<;>omega)|fail) only[O1,WA,Nat.reduceEqDiff,Nat.reduceLT,↓reduceIte,reduceCtorEq,rdT2,rdT1,rdB,AC.r,AC.l,AC.b,c32l0,hemp,h1]
    all_goals try (exfalso;omega)
    refine callV_flat (by rw[hC];exact hck.flat rfl rfl) ?_
    simp (disch:=first|omega|assumption|exact bd (by with_unfolding_all rfl)|exact Or.inl rfl|(simp only[VVlen]<;>omega)|fail) only[O1,WA,Nat.reduceEqDiff,Nat.reduceLT,↓reduceIte,reduceCtorEq]
    refine callV_flat (by rw[hC];exact hph.flat rfl rfl) ?_
    simp (disch:=first|omega|assumption|exact bd (by with_unfolding_all rfl)|exact Or.inl rfl|(simp only[VVlen]<;>omega)|fail) only[O1,WA,Nat.reduceEqDiff,Nat.reduceLT,↓reduceIte,reduceCtorEq]
    exact hret _ _ rfl rfl rfl rfl rfl
   ·have hgo:=hgo (hn fun h=>h5 h.2.2.2)
    have h5':=phraseS_ne.2 h5
    generalize phraseS x m=ph at*
    obtain ⟨xk,xp,xa,xb⟩:=x
    simp (disch:=first|omega|assumption|exact bd (by with_unfolding_all rfl)|exact Or.inl rfl|(simp only[VVlen]<;>omega)|fail) only[O1,WA,Nat.reduceEqDiff,Nat.reduceLT,↓reduceIte,reduceCtorEq,rdT2,rdT1,rdB,AC.r,AC.l,AC.b,c32l0,hemp,h1]
    all_goals try (exfalso;omega)
    refine callV_flat (by rw[hC];exact hck.flat rfl rfl) ?_
    simp (disch:=first|omega|assumption|exact bd (by with_unfolding_all rfl)|exact Or.inl rfl|(simp only[VVlen]<;>omega)|fail) only[O1,WA,Nat.reduceEqDiff,Nat.reduceLT,↓reduceIte,reduceCtorEq]
    refine callV_flat (by rw[hC];exact hph.flat rfl rfl) ?_
    simp (disch:=first|omega|assumption|exact bd (by with_unfolding_all rfl)|exact Or.inl rfl|(simp only[VVlen]<;>omega)|fail) only[O1,WA,Nat.reduceEqDiff,Nat.reduceLT,↓reduceIte,reduceCtorEq,h5']
    exact hgo
theorem read_tail (G11:V) {fr:List (Nat × V)} {C:Ctx} (hC:C.E=EN w (n+7)) (s:List UInt8) (hs:s.length≤100000) (x:Sti) (hx:x.kind<256) (j k:Int) (m:List Int) (m0:Int) (r:List UInt8) (hr:r.length≤100000) (hm0:m0=if countB x.kind=true then m.headD 0 else 1) {T S:AC} (hT:T=rdT1) {P:VPost}
  (hgo:candC x (candN x.kind m r) s=none→∀ m',gK C [KF.seq S] .normal [(0,strV s),(2,.ptr 0 0),(5,.sc (.int .u8 k)),(7,.ptr 1 0),(8,.sc (.int .i64 m')),(20,.sc (.int .i64 j)),(106,.sc (.bool false))] ⟨[(1,stiB x),(0,stiB sti0)],2,0⟩ P)
  (hret:∀ fr st m',candC x (candN x.kind m r) s=some (x,m')→aget fr 2=some (.ptr 0 0)→aget fr 3=some (.sc (.int .i64 m'))→aget fr 4=some (.sc (.bool true))→aget st.own 0=some (stiB x)→st.ro=0→P .ret fr st)
  (hfr:fr= [(0,strV s),(2,.ptr 0 0),(5,.sc (.int .u8 k)),(7,.ptr 1 0),(8,.sc (.int .i64 m0)),(10,.sc (.bool (countB x.kind))),(12,strV r),(20,.sc (.int .i64 j))]∨fr= [(0,strV s),(2,.ptr 0 0),(5,.sc (.int .u8 k)),(7,.ptr 1 0),(8,.sc (.int .i64 m0)),(10,.sc (.bool (countB x.kind))),(11,G11),(12,strV r),(20,.sc (.int .i64 j)),(60,.sc (.bool false))]):
  gK C [KF.seq T,KF.block 3,KF.seq S] .normal fr ⟨[(1,stiB x),(0,stiB sti0)],2,0⟩ P:=by
 rcases hfr with hfr|hfr<;>subst hfr
 all_goals
  have hcs:=cutSuf_p w (n+4) r timesE (by omega)
  have hchk:=fun (m':Int) (r':List UInt8) (hr':r'.length≤100000) (e:candN x.kind m r=(m',r'))=>read_chk w n .dead hC s hs x hx j k m' r' hr' (T:=rdT2) (S:=S) rfl (P:=P) (fun h=>hgo (by rw[e];exact h) m') (fun fr st h=>hret fr st m' (by rw[e];exact h)) (Or.inl rfl)
  have hchkG:=fun (G:V) (m':Int) (r':List UInt8) (hr':r'.length≤100000) (e:candN x.kind m r=(m',r'))=>read_chk w n G hC s hs x hx j k m' r' hr' (T:=rdT2) (S:=S) rfl (P:=P) (fun h=>hgo (by rw[e];exact h) m') (fun fr st h=>hret fr st m' (by rw[e];exact h)) (Or.inr rfl)
  clear hgo hret
  subst hT
  obtain ⟨T2,hT2⟩:∃ T2,T2=rdT2:=⟨_,rfl⟩
  rw[← hT2] at hchk hchkG
  have hc:rdT1= .seq (AC.l rdT1) T2:=by rw[hT2];rfl
  rw[hc]
  cases hcn:countB x.kind with
  |true=>
   rw[hcn,if_pos rfl] at hm0
   have e:candN x.kind m r=(m0,r):=by unfold candN;rw[if_pos hcn,hm0]
   generalize (cutSuf timesE r).getD r=G at*
   have hchk:=hchkG (strV G) m0 r hr e
   cases hB:(cutSuf timesE r).isSome with
   |true=>
    rw[hB] at hcs
    simp (disch:=first|omega|assumption|exact bd (by with_unfolding_all rfl)|exact Or.inl rfl|(simp only[VVlen]<;>omega)|fail) only[O1,WA,Nat.reduceEqDiff,Nat.reduceLT,↓reduceIte,reduceCtorEq,rdT1,rdB,AC.r,AC.l,AC.b,c32l0]
    refine callV_flat (by rw[hC];exact hcs.flat rfl rfl) ?_
    simp (disch:=first|omega|assumption|exact bd (by with_unfolding_all rfl)|exact Or.inl rfl|(simp only[VVlen]<;>omega)|fail) only[O1,WA,Nat.reduceEqDiff,Nat.reduceLT,↓reduceIte,reduceCtorEq]
    exact hchk
   |false=>
    rw[hB] at hcs
    simp (disch:=first|omega|assumption|exact bd (by with_unfolding_all rfl)|exact Or.inl rfl|(simp only[VVlen]<;>omega)|fail) only[O1,WA,Nat.reduceEqDiff,Nat.reduceLT,↓reduceIte,reduceCtorEq,rdT1,rdB,AC.r,AC.l,AC.b,c32l0]
    refine callV_flat (by rw[hC];exact hcs.flat rfl rfl) ?_
    simp (disch:=first|omega|assumption|exact bd (by with_unfolding_all rfl)|exact Or.inl rfl|(simp only[VVlen]<;>omega)|fail) only[O1,WA,Nat.reduceEqDiff,Nat.reduceLT,↓reduceIte,reduceCtorEq]
    exact hchk
  |false=>
   rw[hcn,if_neg (by decide)] at hm0
   cases hcu:cutSuf timesE r with
   |none=>
    have e:candN x.kind m r=(m0,r):=by unfold candN;rw[if_neg (by rw[hcn];decide),hcu,hm0]
    have hchk:=hchkG (strV r) m0 r hr e
    rw[hcu] at hcs
    simp (disch:=first|omega|assumption|exact bd (by with_unfolding_all rfl)|exact Or.inl rfl|(simp only[VVlen]<;>omega)|fail) only[O1,WA,Nat.reduceEqDiff,Nat.reduceLT,↓reduceIte,reduceCtorEq,rdT1,rdB,AC.r,AC.l,AC.b,c32l0]
    refine callV_flat (by rw[hC];exact hcs.flat rfl rfl) ?_
    simp (disch:=first|omega|assumption|exact bd (by with_unfolding_all rfl)|exact Or.inl rfl|(simp only[VVlen]<;>omega)|fail) only[O1,WA,Nat.reduceEqDiff,Nat.reduceLT,↓reduceIte,reduceCtorEq,Option.isSome_none,Option.getD_none]
    exact hchk
   |some t=>
    have hle:=cutSuf_le hcu
    have htl:t.length≤r.length:=by rw[hle.2,List.length_take];omega
    have htr:=trimPre_p w (n+4) t [32] (by omega)
    have hul:((cutPre [32] t).getD t).length≤t.length:=by
     cases hp:cutPre [32] t with
     |none=>exact Nat.le_refl _
     |some u=>have:=cutPre_le hp;simp only[Option.getD_some];rw[this.2,List.length_drop];omega
    have e:candN x.kind m r=(valP (digsP ((cutPre [32] t).getD t)),restP ((cutPre [32] t).getD t)):=by unfold candN;rw[if_neg (by rw[hcn];decide),hcu]
    generalize (cutPre [32] t).getD t=u at*
    have hnm:=number_p w (n+6) u (by omega)
    have hrl:=restP_len u
    have hchk:=hchk _ _ (by omega) e
    generalize valP (digsP u)=nv at*
    generalize restP u=rv at*
    generalize decide (digsP u ≠ [])=bv at*
    rw[hcu] at hcs
    simp (disch:=first|omega|assumption|exact bd (by with_unfolding_all rfl)|exact Or.inl rfl|(simp only[VVlen]<;>omega)|fail) only[O1,WA,Nat.reduceEqDiff,Nat.reduceLT,↓reduceIte,reduceCtorEq,rdT1,rdB,AC.r,AC.l,AC.b,c32l0]
    refine callV_flat (by rw[hC];exact hcs.flat rfl rfl) ?_
    simp (disch:=first|omega|assumption|exact bd (by with_unfolding_all rfl)|exact Or.inl rfl|(simp only[VVlen]<;>omega)|fail) only[O1,WA,Nat.reduceEqDiff,Nat.reduceLT,↓reduceIte,reduceCtorEq,Option.isSome_some,Option.getD_some]
    refine callV_flat (by rw[hC];exact htr.flat rfl rfl) ?_
    repeat' (first|(simp (disch:=first|omega|assumption|exact bd (by with_unfolding_all rfl)|exact Or.inl rfl|(simp only[VVlen]<;>omega)|fail) only[O1,WA,slotsL,opdsA,Nat.reduceEqDiff,Nat.reduceLT,Nat.reduceAdd,Nat.reduceBEq,Int.reduceAdd,Int.reduceSub,Int.reduceLT,Int.reduceLE,Int.reduceEq,Int.reduceNeg,↓reduceIte,reduceCtorEq,List.replicate])|apply gC_drawW|((first|apply gI_dec|apply gG_dec|apply gPG_dec|apply gI_var|apply gG_var|apply gPG_var)<;>intro _))
    refine callV_flat (by rw[hC];exact hnm.flat rfl rfl) ?_
    simp (disch:=first|omega|assumption|exact bd (by with_unfolding_all rfl)|exact Or.inl rfl|(simp only[VVlen]<;>omega)|fail) only[O1,WA,Nat.reduceEqDiff,Nat.reduceLT,↓reduceIte,reduceCtorEq]
    exact hchk
end
end Go.Proofs.YtimmmnanllcfoaaDoor
namespace Go.Proofs.YtimmmnanllcfoaaDoor
open Go Go.Itp
set_option maxRecDepth 100000
set_option maxHeartbeats 400000
set_option linter.unusedSimpArgs false
set_option linter.unusedVariables false
def readV:Option (Sti × Int)→V
 |none=> .tup [stiV sti0,.sc (.int .i64 0),.sc (.bool false)]
 |some (x,m)=> .tup [stiV x,.sc (.int .i64 m),.sc (.bool true)]
theorem rd_code (T1:AC) (h:T1=rdT1):c32l0= .seq (AC.l c32l0) (.seq (AC.l (AC.r c32l0)) (.seq (.block 3 (.seq (AC.l rdB) (.seq (AC.l (AC.r rdB)) (.seq (AC.l (AC.r (AC.r rdB))) (.seq (AC.l (AC.r (AC.r (AC.r rdB)))) (.seq (AC.l (AC.r (AC.r (AC.r (AC.r rdB))))) (.seq (AC.l (AC.r (AC.r (AC.r (AC.r (AC.r rdB)))))) T1))))))) (AC.r (AC.r (AC.r c32l0))))):=by rw[h];rfl
section
variable (w:World) (n:Nat)
theorem dl1 (a:Int):dload [iD a] 0 none=some (.sc (.int .i64 a)):=(rfl)
theorem dl20 (a b:Int):dload [iD a,iD b] 0 none=some (.sc (.int .i64 a)):=(rfl)
theorem dl21 (a b:Int):dload [iD a,iD b] 1 none=some (.sc (.int .i64 b)):=(rfl)
theorem read_round {C:Ctx} (hC:C.E=EN w (n+7)) (s:List UInt8) (hs:s.length≤100000) (k:Nat) (hk1:1≤k) (hk2:k≤10) (p:Bool) (j:Nat) (hj:j<2) (hp:decide ((j:Int)=1)=p) {P:VPost}
  (hgo:candP k p s=none→∀ x,P .normal [(0,strV s),(2,.ptr 0 0),(5,.sc (.int .u8 k)),(20,.sc (.int .i64 ((j:Int)+1)))] ⟨[(1,stiB x),(0,stiB sti0)],2,0⟩)
  (hret:∀ fr st x m',candP k p s=some (x,m')→aget fr 2=some (.ptr 0 0)→aget fr 3=some (.sc (.int .i64 m'))→aget fr 4=some (.sc (.bool true))→aget st.own 0=some (stiB x)→st.ro=0→P .ret fr st):
  gC C c32l0 [] [(0,strV s),(2,.ptr 0 0),(5,.sc (.int .u8 k)),(20,.sc (.int .i64 j))] ⟨[(0,stiB sti0)],1,0⟩ P:=by
 have hf:=form_p w (n+5) k p hk1 hk2
 have hm:=match_p w n s (formB k p) hs (by have:=formB_len k p;omega)
 rw[formB_words] at hm
 have hlen:=fun m r (h:matchF (fParts k p) s=some (m,r))=>matchF_len (f:=fParts k p) (by unfold fParts;split<;>simp) h
 have hfl:(fParts k p).length=if countB k=true then 2 else if k=2 then 1 else if k=6∨k=7 then 3 else 2:=by
  rcases (by omega:k=1∨k=2∨k=3∨k=4∨k=5∨k=6∨k=7∨k=8∨k=9∨k=10) with rfl|rfl|rfl|rfl|rfl|rfl|rfl|rfl|rfl|rfl<;>cases p<;>rfl
 have hcand:candP k p s=match matchF (fParts k p) s with
   |none=>none
   |some (m,r)=>candC (candX k p m) (candN k m r) s:=rfl
 obtain ⟨T1,hT1⟩:∃ T1,T1=rdT1:=⟨_,rfl⟩
 rw[rd_code T1 hT1]
 cases hM:matchF (fParts k p) s with
 |none=>
  rw[hM] at hm hcand
  unfold matchV at hm
  have hgo:=hgo hcand
  simp (disch:=first|omega|assumption|exact bd (by with_unfolding_all rfl)|exact Or.inl rfl|(simp only[VVlen]<;>omega)|fail) only[O1,WA,Nat.reduceEqDiff,Nat.reduceLT,Nat.reduceAdd,↓reduceIte,reduceCtorEq,List.replicate,rdB,AC.r,AC.l,AC.b,c32l0,hp]
  all_goals try (exfalso;omega)
  refine callV_flat (by rw[hC];exact hf.flat rfl rfl) ?_
  simp (disch:=first|omega|assumption|exact bd (by with_unfolding_all rfl)|exact Or.inl rfl|(simp only[VVlen]<;>omega)|fail) only[O1,WA,Nat.reduceEqDiff,Nat.reduceLT,↓reduceIte,reduceCtorEq]
  refine callV_fin (by rw[hC];exact hm) rfl rfl (fun _=>rfl) ?_
  simp (disch:=first|omega|assumption|exact bd (by with_unfolding_all rfl)|exact Or.inl rfl|(simp only[VVlen]<;>omega)|fail) only[O1,WA,Nat.reduceEqDiff,Nat.reduceLT,↓reduceIte,reduceCtorEq]
  exact hgo ⟨k,p,0,0⟩
 |some mr=>
  obtain ⟨m,r⟩:=mr
  have hl:=hlen m r hM
  rw[hM] at hm hcand
  unfold matchV at hm
  simp only at hcand
  rw[hcand] at hgo hret
  clear hcand hM hlen
  cases hcn:countB k with
  |true=>
   rw[hcn,if_pos rfl] at hfl
   obtain ⟨a,rfl⟩:∃ a,m= [a]:=by
    cases m with
    |nil=>simp at hl;omega
    |cons a q=>cases q with
     |nil=>exact ⟨a,rfl⟩
     |cons b c=>simp at hl;omega
   rw[hcn] at hf
   have hx:candX k p [a]=⟨k,p,0,0⟩:=by unfold candX;rw[if_pos hcn]
   rw[hx] at hgo hret
   have htail:=fun S hg=>read_tail w n .dead hC s hs ⟨k,p,0,0⟩ (by simp only;omega) j k [a] a r (by omega) (by simp only[hcn,if_true];rfl) hT1 (S:=S) (P:=P) hg (fun fr st m'=>hret fr st _ m') (Or.inl rfl)
   clear hret
   simp (disch:=first|omega|assumption|exact bd (by with_unfolding_all rfl)|exact Or.inl rfl|(simp only[VVlen]<;>omega)|fail) only[O1,WA,Nat.reduceEqDiff,Nat.reduceLT,Nat.reduceAdd,↓reduceIte,reduceCtorEq,List.replicate,rdB,AC.r,AC.l,AC.b,c32l0,hp]
   all_goals try (exfalso;omega)
   refine callV_flat (by rw[hC];exact hf.flat rfl rfl) ?_
   simp (disch:=first|omega|assumption|exact bd (by with_unfolding_all rfl)|exact Or.inl rfl|(simp only[VVlen]<;>omega)|fail) only[O1,WA,Nat.reduceEqDiff,Nat.reduceLT,↓reduceIte,reduceCtorEq]
   refine callV_fin (by rw[hC];exact hm) rfl rfl (fun _=>rfl) ?_
   simp (disch:=first|omega|assumption|exact bd (by with_unfolding_all rfl)|exact Or.inl rfl|(simp only[VVlen]<;>omega)|fail) only[O1,WA,Nat.reduceEqDiff,Nat.reduceLT,↓reduceIte,reduceCtorEq,List.map_cons,List.map_nil,tn0,dl1]
   simp only[hcn] at htail
   refine htail _ fun hn m'=>?_
   simp (disch:=first|omega|assumption|exact bd (by with_unfolding_all rfl)|exact Or.inl rfl|(simp only[VVlen]<;>omega)|fail) only[O1,WA,Nat.reduceEqDiff,Nat.reduceLT,↓reduceIte,reduceCtorEq]
   exact hgo hn _
  |false=>
   rw[hcn,if_neg (by decide)] at hfl
   rw[hcn] at hf
   have hxx:∀ m,candX k p m=match m with
     | [a,b]=>⟨k,p,a,b⟩
     | [a]=>⟨k,p,a,0⟩
     |_=>⟨k,p,0,0⟩:=fun m=>by unfold candX;rw[if_neg (by rw[hcn];decide)];rfl
   rw[hxx] at hgo hret
   by_cases h2:k=2
   ·rw[if_pos h2] at hfl
    obtain rfl:m= []:=List.eq_nil_of_length_eq_zero (by omega)
    simp only at hgo hret
    have htail:=fun S hg=>read_tail w n (.sl 3 0 []) hC s hs ⟨k,p,0,0⟩ (by simp only;omega) j k [] 1 r (by omega) (by simp only[hcn,Bool.false_eq_true,if_false]) hT1 (S:=S) (P:=P) hg (fun fr st m'=>hret fr st _ m') (Or.inr rfl)
    clear hret
    simp (disch:=first|omega|assumption|exact bd (by with_unfolding_all rfl)|exact Or.inl rfl|(simp only[VVlen]<;>omega)|fail) only[O1,WA,Nat.reduceEqDiff,Nat.reduceLT,Nat.reduceAdd,↓reduceIte,reduceCtorEq,List.replicate,rdB,AC.r,AC.l,AC.b,c32l0,hp]
    all_goals try (exfalso;omega)
    refine callV_flat (by rw[hC];exact hf.flat rfl rfl) ?_
    simp (disch:=first|omega|assumption|exact bd (by with_unfolding_all rfl)|exact Or.inl rfl|(simp only[VVlen]<;>omega)|fail) only[O1,WA,Nat.reduceEqDiff,Nat.reduceLT,↓reduceIte,reduceCtorEq]
    refine callV_fin (by rw[hC];exact hm) rfl rfl (fun _=>rfl) ?_
    simp (disch:=first|omega|assumption|exact bd (by with_unfolding_all rfl)|exact Or.inl rfl|(simp only[VVlen]<;>omega)|fail) only[O1,WA,Nat.reduceEqDiff,Nat.reduceLT,↓reduceIte,reduceCtorEq,List.map_nil]
    simp only[hcn] at htail
    refine htail _ fun hn m'=>?_
    simp (disch:=first|omega|assumption|exact bd (by with_unfolding_all rfl)|exact Or.inl rfl|(simp only[VVlen]<;>omega)|fail) only[O1,WA,Nat.reduceEqDiff,Nat.reduceLT,↓reduceIte,reduceCtorEq]
    exact hgo hn _
   rw[if_neg h2] at hfl
   by_cases h67:k=6∨k=7
   ·rw[if_pos h67] at hfl
    obtain ⟨a,b,rfl⟩:∃ a b,m= [a,b]:=by
     cases m with
     |nil=>simp at hl;omega
     |cons a q=>cases q with
      |nil=>simp at hl;omega
      |cons b c=>cases c with
       |nil=>exact ⟨a,b,rfl⟩
       |cons d e=>simp at hl;omega
    simp only at hgo hret
    have htail:=fun S hg=>read_tail w n .dead hC s hs ⟨k,p,a,b⟩ (by simp only;omega) j k [a,b] 1 r (by omega) (by simp only[hcn,Bool.false_eq_true,if_false]) hT1 (S:=S) (P:=P) hg (fun fr st m'=>hret fr st _ m') (Or.inl rfl)
    clear hret
    simp (disch:=first|omega|assumption|exact bd (by with_unfolding_all rfl)|exact Or.inl rfl|(simp only[VVlen]<;>omega)|fail) only[O1,WA,Nat.reduceEqDiff,Nat.reduceLT,Nat.reduceAdd,↓reduceIte,reduceCtorEq,List.replicate,rdB,AC.r,AC.l,AC.b,c32l0,hp]
    all_goals try (exfalso;omega)
    refine callV_flat (by rw[hC];exact hf.flat rfl rfl) ?_
    simp (disch:=first|omega|assumption|exact bd (by with_unfolding_all rfl)|exact Or.inl rfl|(simp only[VVlen]<;>omega)|fail) only[O1,WA,Nat.reduceEqDiff,Nat.reduceLT,↓reduceIte,reduceCtorEq]
    refine callV_fin (by rw[hC];exact hm) rfl rfl (fun _=>rfl) ?_
    repeat' (first|(simp (disch:=first|omega|assumption|exact bd (by with_unfolding_all rfl)|exact Or.inl rfl|(simp only[VVlen]<;>omega)|fail) only[O1,WA,slotsL,opdsA,Nat.reduceEqDiff,Nat.reduceLT,Nat.reduceAdd,↓reduceIte,reduceCtorEq,List.map_cons,List.map_nil,tn0,tn1,dl20,dl21])|apply gC_drawW|((first|apply gI_dec|apply gG_dec|apply gPG_dec|apply gI_var|apply gG_var|apply gPG_var)<;>intro _))
    simp only[hcn] at htail
    refine htail _ fun hn m'=>?_
    simp (disch:=first|omega|assumption|exact bd (by with_unfolding_all rfl)|exact Or.inl rfl|(simp only[VVlen]<;>omega)|fail) only[O1,WA,Nat.reduceEqDiff,Nat.reduceLT,↓reduceIte,reduceCtorEq]
    exact hgo hn _
   ·rw[if_neg h67] at hfl
    obtain ⟨a,rfl⟩:∃ a,m= [a]:=by
     cases m with
     |nil=>simp at hl;omega
     |cons a q=>cases q with
      |nil=>exact ⟨a,rfl⟩
      |cons b c=>simp at hl;omega
    simp only at hgo hret
    have htail:=fun S hg=>read_tail w n .dead hC s hs ⟨k,p,a,0⟩ (by simp only;omega) j k [a] 1 r (by omega) (by simp only[hcn,Bool.false_eq_true,if_false]) hT1 (S:=S) (P:=P) hg (fun fr st m'=>hret fr st _ m') (Or.inl rfl)
    clear hret
    simp (disch:=first|omega|assumption|exact bd (by with_unfolding_all rfl)|exact Or.inl rfl|(simp only[VVlen]<;>omega)|fail) only[O1,WA,Nat.reduceEqDiff,Nat.reduceLT,Nat.reduceAdd,↓reduceIte,reduceCtorEq,List.replicate,rdB,AC.r,AC.l,AC.b,c32l0,hp]
    all_goals try (exfalso;omega)
    refine callV_flat (by rw[hC];exact hf.flat rfl rfl) ?_
    simp (disch:=first|omega|assumption|exact bd (by with_unfolding_all rfl)|exact Or.inl rfl|(simp only[VVlen]<;>omega)|fail) only[O1,WA,Nat.reduceEqDiff,Nat.reduceLT,↓reduceIte,reduceCtorEq]
    refine callV_fin (by rw[hC];exact hm) rfl rfl (fun _=>rfl) ?_
    simp (disch:=first|omega|assumption|exact bd (by with_unfolding_all rfl)|exact Or.inl rfl|(simp only[VVlen]<;>omega)|fail) only[O1,WA,Nat.reduceEqDiff,Nat.reduceLT,↓reduceIte,reduceCtorEq,List.map_cons,List.map_nil,tn0,dl1]
    simp only[hcn] at htail
    refine htail _ fun hn m'=>?_
    simp (disch:=first|omega|assumption|exact bd (by with_unfolding_all rfl)|exact Or.inl rfl|(simp only[VVlen]<;>omega)|fail) only[O1,WA,Nat.reduceEqDiff,Nat.reduceLT,↓reduceIte,reduceCtorEq]
    exact hgo hn _
theorem read_p (s:List UInt8) (hs:s.length≤100000):VSpec (EN w (n+8)) 32 [strV s] (readV (readS s)) ⟨[],0,0⟩:=by
 refine vspec_flat rfl rfl (fun _ _=>rfl) (Nat.le_of_ble_eq_true rfl) (oldVals w) (by rcases readS s with _|⟨x,m⟩<;>rfl) fun C hC h0=>?_
 have hrn:C.E.rounds=many:=by rw[hC,callP_rounds]
 simp (disch:=first|omega|assumption|exact bd (by with_unfolding_all rfl)|exact Or.inl rfl|(simp only[VVlen]<;>omega)|fail) only[O1,WA,Nat.reduceEqDiff,Nat.reduceLT,↓reduceIte,reduceCtorEq,List.replicate,c32]
 refine g_while (fun m fr st=>∃ k:Nat,m=11 - k∧1≤k∧k≤11∧(∀ k' p,1≤k'→k'<k→candP k' p s=none)∧fr= [(0,strV s),(2,.ptr 0 0),(5,.sc (.int .u8 k))]∧st=⟨[(0,stiB sti0)],1,0⟩) 10 ?_ ⟨_,_,.refl _ _,1,by omega,Nat.le_refl _,by omega,fun k' p h1 h2=>absurd h2 (by omega),rfl,rfl⟩ ?_
 ·rw[hrn];unfold many;omega
 rintro m fr st ⟨k,rfl,hk1,hk,hno,rfl,rfl⟩
 by_cases hlt:k≤10
 ·have hw1:IntKind.u8.wrap ((k:Int)+1)=((k+1:Nat):Int):=by rw[wrap_u8 _ (by omega) (by omega)];omega
  simp (disch:=first|omega|assumption|exact bd (by with_unfolding_all rfl)|exact Or.inl rfl|(simp only[VVlen]<;>omega)|fail) only[O1,WA,Nat.reduceEqDiff,Nat.reduceLT,↓reduceIte,reduceCtorEq,c32l1]
  all_goals try (exfalso;omega)
  refine g_while (fun m fr st=>∃ j:Nat,m=2 - j∧j≤2∧(0<j→candP k false s=none)∧(1<j→candP k true s=none)∧fr= [(0,strV s),(2,.ptr 0 0),(5,.sc (.int .u8 k)),(20,.sc (.int .i64 j))]∧st=⟨[(0,stiB sti0)],1,0⟩) 2 ?_ ⟨_,_,.refl _ _,0,by omega,Nat.zero_le _,fun h=>absurd h (by omega),fun h=>absurd h (by omega),rfl,rfl⟩ ?_
  ·rw[hrn];unfold many;omega
  rintro m fr st ⟨j,rfl,hj,hj0,hj1,rfl,rfl⟩
  by_cases hjl:j<2
  ·have hp:decide ((j:Int)=1)=decide (j=1):=decide_eq_decide.2 (by omega)
   refine read_round w n hC s hs k hk1 hlt (decide (j=1)) j hjl hp (fun hn x=>?_) (fun fr st x m' hc e2 e3 e4 e5 e6=>?_)
   ·simp (disch:=first|omega|assumption|exact bd (by with_unfolding_all rfl)|exact Or.inl rfl|(simp only[VVlen]<;>omega)|fail) only[WA]
    refine ⟨2 - (j+1),_,_,by omega,weak_to [(0,0)] 1 h0 rfl rfl rfl rfl,j+1,rfl,by omega,fun _=>?_,fun h1=>?_,rfl,rfl⟩
    ·rcases (by omega:j=0∨j=1) with rfl|rfl
     ·exact hn
     ·exact hj0 (by decide)
    ·obtain rfl:j=1:=by omega
     exact hn
   ·rw[candP_some hc]
    simp (disch:=first|omega|assumption|exact bd (by with_unfolding_all rfl)|exact Or.inl rfl|(simp only[VVlen]<;>omega)|fail) only[O1,WA,e2,e3,e4,e5]
    exact weak_flat rfl h0 e6
  ·have:j=2:=by omega
   subst this
   simp (disch:=first|omega|assumption|exact bd (by with_unfolding_all rfl)|exact Or.inl rfl|(simp only[VVlen]<;>omega)|fail) only[O1,WA,Nat.reduceEqDiff,Nat.reduceLT,↓reduceIte,reduceCtorEq,c32l0]
   all_goals try (exfalso;omega)
   rw[hw1]
   refine ⟨11 - (k+1),_,_,by omega,.refl _ _,k+1,rfl,by omega,by omega,fun k' p a b=>?_,rfl,rfl⟩
   rcases (by omega:k'<k∨k'=k) with h|rfl
   ·exact hno k' p a h
   ·cases p
    ·exact hj0 (by decide)
    ·exact hj1 (by decide)
 ·have:k=11:=by omega
  subst this
  have hr:readS s=none:=readS_all (cand:=candP) (fun hx a b=>candP_of hx a b) fun k p h1 h2=>hno k p h1 (by omega)
  rw[hr]
  simp (disch:=first|omega|assumption|exact bd (by with_unfolding_all rfl)|exact Or.inl rfl|(simp only[VVlen]<;>omega)|fail) only[O1,WA,Nat.reduceEqDiff,Nat.reduceLT,↓reduceIte,reduceCtorEq,c32l1]
  all_goals try (exfalso;omega)
  exact weak_flat rfl h0 rfl
end
abbrev cellsV (p:List Sti × Int):V:= .tup [.sl 3 p.1.length (stiD p.1),.sc (.int .i64 p.2)]
theorem row1V_sti (nx t:Nat) (a b c d:Value):mkRowV nx t 4 1 [.int .u8 0,.bool false,.int .i64 0,.int .i64 0] [(0,4,.agg [.sc a,.sc b,.sc c,.sc d])]=some (.ref nx 0 1 1,some (.row t 4 false false [.sc a,.sc b,.sc c,.sc d]),[]):=(rfl)
theorem snap_gr4 {H:VHp} {o t n:Nat} {z:Bool} {l:List D} (h:aget H o=some (.gro t 4 z l)) (hl:l.length=n*4):snapV H (.gr 2 o n)=some (.sl 2 n l):=by
 simp only[snapV,toD,h]
 rw[if_pos ⟨hl,by decide,by decide,by decide⟩]
 rfl
theorem snapL_one {H:VHp} {v v':V} (h:snapV H v=some v'):snapL H [v]=some [v']:=by simp only[snapL,h,Option.bind_some,Option.map_some]
theorem stiD_snoc (A:List Sti) (x:Sti):stiD (A++ [x])=stiD A++ [.sc (.int .u8 x.kind),.sc (.bool x.purl),.sc (.int .i64 x.a),.sc (.int .i64 x.b)]:=by simp[stiD]
theorem aget_swap (a b:Go.Itp.Obj):∀ o ob,aget ([(0,a),(1,b)]:VHp) o=some ob→aget ([(1,b),(0,a)]:VHp) o=some ob:=by
 intro o ob
 rcases (by omega:o=0∨o=1∨2≤o) with rfl|rfl|h
 ·exact id
 ·exact id
 ·intro e
  rw[aget_cons,if_neg (by omega),aget_cons,if_neg (by omega)] at e
  cases e
section
variable (w:World) (n:Nat)
theorem pc_inner {C:Ctx} (hC:C.E=EN w (n+8)) (h0:C.w0.nx=0) (s:List UInt8) (q:List (List UInt8)) (np k:Int) (acc:List Sti) (x:Sti) (m:Nat) (hm:acc.length+m≤200) {K:List KF} {P:VPost}
  (hgo:gK C K (.exit 2) [(0,strV s),(4,.gr 2 0 (acc++List.replicate m x).length),(7,.ptr 1 0),(16,.sl 3 q.length (q.map sD)),(17,.sc (.int .i64 np)),(18,.sc (.int .i64 k)),(37,.sc (.int .i64 m)),(38,.sc (.int .i64 m)),(39,.sc (.bool false))] ⟨[(0,.gro 48 4 false (stiD (acc++List.replicate m x))),(1,stiB x)],2,0⟩ P):
  gL C [0,4,7,16,17,18,37,38] c12l0 K [(0,strV s),(4,.gr 2 0 acc.length),(7,.ptr 1 0),(16,.sl 3 q.length (q.map sD)),(17,.sc (.int .i64 np)),(18,.sc (.int .i64 k)),(37,.sc (.int .i64 m)),(38,.sc (.int .i64 0))] ⟨[(1,stiB x),(0,.gro 48 4 false (stiD acc))],2,0⟩ P:=by
 have hrn:C.E.rounds=many:=by rw[hC,callP_rounds]
 refine g_while (fun mm fr st=>∃ i:Nat,mm=m - i∧i≤m∧fr= [(0,strV s),(4,.gr 2 0 (acc++List.replicate i x).length),(7,.ptr 1 0),(16,.sl 3 q.length (q.map sD)),(17,.sc (.int .i64 np)),(18,.sc (.int .i64 k)),(37,.sc (.int .i64 m)),(38,.sc (.int .i64 i))]∧st=⟨[(0,.gro 48 4 false (stiD (acc++List.replicate i x))),(1,stiB x)],2,0⟩) m ?_ ⟨_,_,weak_drop (aget_swap _ _),0,by omega,Nat.zero_le _,by simp,by simp⟩ ?_
 ·rw[hrn];unfold many;omega
 rintro mm fr st ⟨i,rfl,hi,rfl,rfl⟩
 by_cases hlt:i<m
 ·have hsn:=stiD_snoc (acc++List.replicate i x) x
  have hl:(acc++List.replicate i x).length=acc.length+i:=by simp
  have hd:=stiD_len (acc++List.replicate i x)
  have hrs:acc++List.replicate (i+1) x=acc++List.replicate i x++ [x]:=by rw[List.replicate_succ'];simp
  rw[hl] at hd ⊢
  generalize acc++List.replicate i x=A at*
  generalize stiD A=AD at*
  obtain ⟨xk,xp,xa,xb⟩:=x
  simp (disch:=first|omega|assumption|exact bd (by with_unfolding_all rfl)|exact Or.inl rfl|(simp only[VVlen]<;>omega)|fail) only[O1,WA,Nat.reduceEqDiff,Nat.reduceLT,Nat.reduceAdd,↓reduceIte,reduceCtorEq,c12l0,row1V_sti]
  all_goals try (exfalso;omega)
  refine ⟨m - (i+1),_,_,by omega,weak_to [(3,0),(1,1)] 2 h0 rfl rfl rfl rfl,i+1,rfl,by omega,?_,?_⟩
  ·rw[hrs,List.length_append,hl];rfl
  ·rw[hrs,hsn];rfl
 ·have:i=m:=by omega
  subst this
  generalize stiD (acc++List.replicate i x)=AD at*
  generalize (acc++List.replicate i x).length=al at*
  simp (disch:=first|omega|assumption|exact bd (by with_unfolding_all rfl)|exact Or.inl rfl|(simp only[VVlen]<;>omega)|fail) only[O1,WA,Nat.reduceEqDiff,Nat.reduceLT,↓reduceIte,reduceCtorEq,c12l0]
  exact hgo
theorem parseC_cases (s:List UInt8):parseC s=if 2000<s.length then (([]:List Sti),(12:Int)) else if s=nothingS then (([]:List Sti),(0:Int)) else match rawS (splitC s) [] with
  |none=>(([]:List Sti),(12:Int))
  |some L=>if allF L=0∧wordsS L=s then (L,(0:Int)) else (([]:List Sti),(12:Int)):=by
 unfold parseC readC41
 by_cases h1:2000<s.length
 ·simp only[if_pos h1]
 simp only[if_neg h1]
 by_cases h2:s=nothingS
 ·simp only[if_pos h2]
 simp only[if_neg h2]
 cases rawS (splitC s) [] with
 |none=>rfl
 |some L=>
  by_cases h3:allF L=0∧wordsS L=s
  ·simp only[if_pos h3]
  ·simp only[if_neg h3]
theorem pcells_p (s:List UInt8) (hs:s.length≤100000):VSpec (EN w (n+9)) 12 [strV s] (cellsV (parseC s)) ⟨[],0,0⟩:=by
 have hsz:=mk_size s
 rw[parseC_cases]
 by_cases h1:2000<s.length
 ·rw[if_pos h1]
  refine vspec_g rfl rfl (fun _ _=>rfl) (Nat.le_of_ble_eq_true rfl) (oldVals w) retOK_fin rfl fun C hC h0=>?_
  simp (disch:=first|omega|assumption|exact bd (by with_unfolding_all rfl)|exact Or.inl rfl|(simp only[VVlen]<;>omega)|fail) only[O1,WA,Nat.reduceEqDiff,Nat.reduceLT,↓reduceIte,reduceCtorEq,c12,hsz]
  all_goals try (exfalso;omega)
  exact weak_finNil h0 rfl
 rw[if_neg h1]
 have hnt:((⟨s.toArray⟩:ByteArray)=⟨#[110,111,116,104,105,110,103]⟩)=(s=nothingS):=mk_inj s nothingS
 by_cases h2:s=nothingS
 ·rw[if_pos h2]
  refine vspec_g rfl rfl (fun _ _=>rfl) (Nat.le_of_ble_eq_true rfl) (oldVals w) retOK_fin rfl fun C hC h0=>?_
  rw[eq_true h2] at hnt
  have hl7:s.length≤2000:=by omega
  simp (disch:=first|omega|assumption|exact bd (by with_unfolding_all rfl)|exact Or.inl rfl|(simp only[VVlen]<;>omega)|fail) only[O1,WA,Nat.reduceEqDiff,Nat.reduceLT,↓reduceIte,reduceCtorEq,c12,hsz,hnt]
  all_goals try (exfalso;omega)
  exact weak_finNil h0 rfl
 rw[if_neg h2]
 have hsp:=split2_p w (n+2) s (by omega)
 have hsl:=splitC_len s
 have hsm:=splitC_mem s
 have hsn:=splitC_ne s
 generalize splitC s=q at*
 refine vspec_g rfl rfl (fun _ _=>rfl) (Nat.le_of_ble_eq_true rfl) (oldVals w) (by
  cases rawS q [] with
  |none=>exact retOK_fin
  |some L=>simp only;split<;>exact retOK_fin) rfl fun C hC h0=>?_
 have hrn:C.E.rounds=many:=by rw[hC,callP_rounds]
 simp (disch:=first|omega|assumption|exact bd (by with_unfolding_all rfl)|exact Or.inl rfl|(simp only[VVlen]<;>omega)|fail) only[O1,WA,Nat.reduceEqDiff,Nat.reduceLT,↓reduceIte,reduceCtorEq,c12,hsz,hnt,h2]
 all_goals try (exfalso;omega)
 refine callV_fin (by rw[hC];exact hsp) rfl rfl (fun _=>rfl) ?_
 simp (disch:=first|omega|assumption|exact bd (by with_unfolding_all rfl)|exact Or.inl rfl|(simp only[VVlen]<;>omega)|fail) only[O1,WA,Nat.reduceEqDiff,Nat.reduceLT,↓reduceIte,reduceCtorEq]
 refine g_while (fun m fr st=>∃ (k:Nat) (acc:List Sti),m=q.length - k∧k≤q.length∧acc.length≤200∧(∀ x ∈ acc,StiP x)∧rawS q []=rawS (q.drop k) acc∧fr= [(0,strV s),(4,.gr 2 0 acc.length),(16,.sl 3 q.length (q.map sD)),(17,.sc (.int .i64 q.length)),(18,.sc (.int .i64 k))]∧st=⟨[(0,.gro 48 4 false (stiD acc))],1,0⟩) q.length ?_ ⟨_,_,weak_nilSlot 4 48 4 rfl,0,[],by omega,Nat.zero_le _,Nat.zero_le _,(fun x hx=>by cases hx),rfl,rfl,rfl⟩ ?_
 ·rw[hrn];unfold many;omega
 rintro m fr st ⟨k,acc,rfl,hk,hal,hap,hraw,rfl,rfl⟩
 by_cases hlt:k<q.length
 ·have hqk:q.drop k=q[k]! ::q.drop (k+1):=by rw[List.drop_eq_getElem_cons hlt,getElem!_pos q k hlt]
  have hpl:=hsm q[k]! (by rw[getElem!_pos q k hlt];exact List.getElem_mem hlt)
  have hrd:=read_p w n q[k]! (by omega)
  rw[hqk,rawS] at hraw
  generalize hp:q[k]! =p at*
  cases hr:readS p with
  |none=>
   rw[hr] at hrd hraw
   rw[hraw]
   unfold readV at hrd
   simp (disch:=first|omega|assumption|exact bd (by with_unfolding_all rfl)|exact Or.inl rfl|(simp only[VVlen]<;>omega)|fail) only[O1,WA,Nat.reduceEqDiff,Nat.reduceLT,↓reduceIte,reduceCtorEq,c12l1,hp]
   all_goals try (exfalso;omega)
   refine callV_flat (by rw[hC];exact hrd.flat rfl rfl) ?_
   simp (disch:=first|omega|assumption|exact bd (by with_unfolding_all rfl)|exact Or.inl rfl|(simp only[VVlen]<;>omega)|fail) only[O1,WA,Nat.reduceEqDiff,Nat.reduceLT,Nat.reduceAdd,↓reduceIte,reduceCtorEq,List.replicate]
   exact weak_finNil h0 rfl
  |some xm=>
   obtain ⟨x,z⟩:=xm
   obtain ⟨hx,hz,hps⟩:=readS_some hr
   rw[hr] at hrd hraw
   simp only at hraw
   unfold readV at hrd
   obtain ⟨m,rfl⟩:=Int.eq_ofNat_of_zero_le (show 0≤z by omega)
   by_cases hgt:200<(acc.length:Int)+(m:Int)
   ·rw[if_pos hgt] at hraw
    rw[hraw]
    obtain ⟨xk,xp,xa,xb⟩:=x
    simp (disch:=first|omega|assumption|exact bd (by with_unfolding_all rfl)|exact Or.inl rfl|(simp only[VVlen]<;>omega)|fail) only[O1,WA,Nat.reduceEqDiff,Nat.reduceLT,↓reduceIte,reduceCtorEq,c12l1,hp]
    all_goals try (exfalso;omega)
    refine callV_flat (by rw[hC];exact hrd.flat rfl rfl) ?_
    simp (disch:=first|omega|assumption|exact bd (by with_unfolding_all rfl)|exact Or.inl rfl|(simp only[VVlen]<;>omega)|fail) only[O1,WA,Nat.reduceEqDiff,Nat.reduceLT,Nat.reduceAdd,↓reduceIte,reduceCtorEq,List.replicate]
    all_goals try (exfalso;omega)
    exact weak_finNil h0 rfl
   ·rw[if_neg hgt,Int.toNat_natCast] at hraw
    have hin:=fun K P hg=>pc_inner w n hC h0 s q q.length k acc x m (by omega) (K:=K) (P:=P) hg
    obtain ⟨xk,xp,xa,xb⟩:=x
    simp (disch:=first|omega|assumption|exact bd (by with_unfolding_all rfl)|exact Or.inl rfl|(simp only[VVlen]<;>omega)|fail) only[O1,WA,Nat.reduceEqDiff,Nat.reduceLT,↓reduceIte,reduceCtorEq,c12l1,hp]
    all_goals try (exfalso;omega)
    refine callV_flat (by rw[hC];exact hrd.flat rfl rfl) ?_
    simp (disch:=first|omega|assumption|exact bd (by with_unfolding_all rfl)|exact Or.inl rfl|(simp only[VVlen]<;>omega)|fail) only[O1,WA,Nat.reduceEqDiff,Nat.reduceLT,Nat.reduceAdd,↓reduceIte,reduceCtorEq,List.replicate]
    all_goals try (exfalso;omega)
    refine hin _ _ ?_
    generalize hA:acc++List.replicate m ⟨xk,xp,xa,xb⟩=A at*
    have hAl:A.length≤200:=by rw[← hA];simp;omega
    have hAp:∀ y ∈ A,StiP y:=fun y hy=>by
     rw[← hA] at hy
     rcases List.mem_append.1 hy with hy|hy
     ·exact hap y hy
     ·rw[List.eq_of_mem_replicate hy];exact hx
    simp (disch:=first|omega|assumption|exact bd (by with_unfolding_all rfl)|exact Or.inl rfl|(simp only[VVlen]<;>omega)|fail) only[O1,WA,Nat.reduceEqDiff,Nat.reduceLT,↓reduceIte,reduceCtorEq]
    exact ⟨q.length - (k+1),_,_,by omega,weak_to [(0,0)] 1 h0 rfl rfl rfl rfl,k+1,A,rfl,by omega,hAl,hAp,hraw,rfl,rfl⟩
 ·have:k=q.length:=by omega
  subst this
  rw[List.drop_length,rawS] at hraw
  rw[hraw]
  simp only
  have hd:=stiD_len acc
  have ha:=sall_p w (n+2) 2 acc (by omega) fun y hy=>by have:=(hap y hy).bounds;omega
  have hwr:=fun hok=>write_p w (n+4) 2 acc hal hok
  have hok0:=fun h:allF acc=0=>(allF_ok h).2.1
  have h1:∀ st:VSt,aget st.own 0=some (.gro 48 4 false (stiD acc))→snapL st.own [.gr 2 0 acc.length]=some [.sl 2 acc.length (stiD acc)]:=fun st h=>snapL_one (snap_gr4 h hd)
  have hfin:snapV ([(0,.gro 48 4 false (stiD acc))]:VHp) (.gr 2 0 acc.length)=some (.sl 2 acc.length (stiD acc)):=snap_gr4 rfl hd
  by_cases h3:allF acc=0
  ·have hwr:=hwr (hok0 h3)
   rw[h3] at ha
   have hmj:((⟨(wordsS acc).toArray⟩:ByteArray)=⟨s.toArray⟩)=(wordsS acc=s):=mk_inj _ _
   by_cases h4:wordsS acc=s
   ·rw[if_pos ⟨h3,h4⟩]
    rw[h4] at hwr
    simp (disch:=first|omega|assumption|exact bd (by with_unfolding_all rfl)|exact Or.inl rfl|(simp only[VVlen]<;>omega)|fail) only[O1,WA,Nat.reduceEqDiff,Nat.reduceLT,↓reduceIte,reduceCtorEq,c12l1]
    all_goals try (exfalso;omega)
    refine callV_flat (by rw[hC];exact ha.flat rfl (h1 _ rfl)) ?_
    simp (disch:=first|omega|assumption|exact bd (by with_unfolding_all rfl)|exact Or.inl rfl|(simp only[VVlen]<;>omega)|fail) only[O1,WA,Nat.reduceEqDiff,Nat.reduceLT,↓reduceIte,reduceCtorEq]
    refine callV_flat (by rw[hC];exact hwr.flat rfl (h1 _ rfl)) ?_
    simp (disch:=first|omega|assumption|exact bd (by with_unfolding_all rfl)|exact Or.inl rfl|(simp only[VVlen]<;>omega)|fail) only[O1,WA,Nat.reduceEqDiff,Nat.reduceLT,↓reduceIte,reduceCtorEq]
    exact weak_fin (s:=2) (n:=acc.length) (l:=stiD acc) hfin rfl (.inl (by decide)) h0 rfl
   ·rw[if_neg fun h=>h4 h.2]
    rw[eq_false h4] at hmj
    generalize wordsS acc=W at*
    simp (disch:=first|omega|assumption|exact bd (by with_unfolding_all rfl)|exact Or.inl rfl|(simp only[VVlen]<;>omega)|fail) only[O1,WA,Nat.reduceEqDiff,Nat.reduceLT,↓reduceIte,reduceCtorEq,c12l1]
    all_goals try (exfalso;omega)
    refine callV_flat (by rw[hC];exact ha.flat rfl (h1 _ rfl)) ?_
    simp (disch:=first|omega|assumption|exact bd (by with_unfolding_all rfl)|exact Or.inl rfl|(simp only[VVlen]<;>omega)|fail) only[O1,WA,Nat.reduceEqDiff,Nat.reduceLT,↓reduceIte,reduceCtorEq]
    refine callV_flat (by rw[hC];exact hwr.flat rfl (h1 _ rfl)) ?_
    simp (disch:=first|omega|assumption|exact bd (by with_unfolding_all rfl)|exact Or.inl rfl|(simp only[VVlen]<;>omega)|fail) only[O1,WA,Nat.reduceEqDiff,Nat.reduceLT,↓reduceIte,reduceCtorEq,hmj]
    exact weak_finNil h0 rfl
  ·rw[if_neg fun h=>h3 h.1]
   generalize allF acc=e at*
   simp (disch:=first|omega|assumption|exact bd (by with_unfolding_all rfl)|exact Or.inl rfl|(simp only[VVlen]<;>omega)|fail) only[O1,WA,Nat.reduceEqDiff,Nat.reduceLT,↓reduceIte,reduceCtorEq,c12l1]
   all_goals try (exfalso;omega)
   refine callV_flat (by rw[hC];exact ha.flat rfl (h1 _ rfl)) ?_
   simp (disch:=first|omega|assumption|exact bd (by with_unfolding_all rfl)|exact Or.inl rfl|(simp only[VVlen]<;>omega)|fail) only[O1,WA,Nat.reduceEqDiff,Nat.reduceLT,↓reduceIte,reduceCtorEq]
   all_goals try (exfalso;omega)
   exact weak_finNil h0 rfl
end
set_option maxHeartbeats 1000000
section
variable (w:World) (n:Nat)
theorem cells_p (s:Nat) (L:List Sti) (hL:L.length≤140737488351232) (hK:KOK L):VSpec (EN w (n+7)) 10 [.sl s L.length (stiD L)] (.tup [strV (cellsF L).1,.sc (.int .i64 (cellsF L).2)]) ⟨[],0,0⟩:=by
 have ha:=sall_p w n s L hL hK
 unfold cellsF
 by_cases h0:allF L=0
 ·rw[h0] at ha
  rw[if_pos h0]
  have hok:=allF_ok h0
  have hw:=write_p w (n+2) s L hok.1 hok.2.1
  generalize wordsS L=W at*
  have hsz:=mk_size W
  by_cases h2:2000<W.length
  ·rw[if_pos h2]
   refine vspec_flat rfl rfl (fun _ _=>rfl) (Nat.le_of_ble_eq_true rfl) (oldVals w) rfl fun C hC h0=>?_
   simp (disch:=first|omega|assumption|exact bd (by with_unfolding_all rfl)|exact Or.inl rfl|(simp only[VVlen]<;>omega)|fail) only[O1,WA,slotsL,opdsA,Nat.reduceEqDiff,Nat.reduceLT,Nat.reduceAdd,Nat.reduceBEq,Int.reduceAdd,Int.reduceSub,Int.reduceLT,Int.reduceLE,Int.reduceEq,Int.reduceNeg,↓reduceIte,reduceCtorEq,List.replicate,c10]
   refine callV_flat (by rw[hC];exact ha.flat rfl rfl) ?_
   simp (disch:=first|omega|assumption|exact bd (by with_unfolding_all rfl)|exact Or.inl rfl|(simp only[VVlen]<;>omega)|fail) only[O1,WA,slotsL,opdsA,Nat.reduceEqDiff,Nat.reduceLT,Nat.reduceAdd,Nat.reduceBEq,Int.reduceAdd,Int.reduceSub,Int.reduceLT,Int.reduceLE,Int.reduceEq,Int.reduceNeg,↓reduceIte,reduceCtorEq,List.replicate]
   refine callV_flat (by rw[hC];exact hw.flat rfl rfl) ?_
   simp (disch:=first|omega|assumption|exact bd (by with_unfolding_all rfl)|exact Or.inl rfl|(simp only[VVlen]<;>omega)|fail) only[O1,WA,slotsL,opdsA,Nat.reduceEqDiff,Nat.reduceLT,Nat.reduceAdd,Nat.reduceBEq,Int.reduceAdd,Int.reduceSub,Int.reduceLT,Int.reduceLE,Int.reduceEq,Int.reduceNeg,↓reduceIte,reduceCtorEq,List.replicate,hsz]
   all_goals try (exfalso;omega)
   exact weak_flat rfl h0 rfl
  ·rw[if_neg h2]
   refine vspec_flat rfl rfl (fun _ _=>rfl) (Nat.le_of_ble_eq_true rfl) (oldVals w) rfl fun C hC h0=>?_
   simp (disch:=first|omega|assumption|exact bd (by with_unfolding_all rfl)|exact Or.inl rfl|(simp only[VVlen]<;>omega)|fail) only[O1,WA,slotsL,opdsA,Nat.reduceEqDiff,Nat.reduceLT,Nat.reduceAdd,Nat.reduceBEq,Int.reduceAdd,Int.reduceSub,Int.reduceLT,Int.reduceLE,Int.reduceEq,Int.reduceNeg,↓reduceIte,reduceCtorEq,List.replicate,c10]
   refine callV_flat (by rw[hC];exact ha.flat rfl rfl) ?_
   simp (disch:=first|omega|assumption|exact bd (by with_unfolding_all rfl)|exact Or.inl rfl|(simp only[VVlen]<;>omega)|fail) only[O1,WA,slotsL,opdsA,Nat.reduceEqDiff,Nat.reduceLT,Nat.reduceAdd,Nat.reduceBEq,Int.reduceAdd,Int.reduceSub,Int.reduceLT,Int.reduceLE,Int.reduceEq,Int.reduceNeg,↓reduceIte,reduceCtorEq,List.replicate]
   refine callV_flat (by rw[hC];exact hw.flat rfl rfl) ?_
   simp (disch:=first|omega|assumption|exact bd (by with_unfolding_all rfl)|exact Or.inl rfl|(simp only[VVlen]<;>omega)|fail) only[O1,WA,slotsL,opdsA,Nat.reduceEqDiff,Nat.reduceLT,Nat.reduceAdd,Nat.reduceBEq,Int.reduceAdd,Int.reduceSub,Int.reduceLT,Int.reduceLE,Int.reduceEq,Int.reduceNeg,↓reduceIte,reduceCtorEq,List.replicate,hsz]
   all_goals try (exfalso;omega)
   exact weak_flat rfl h0 rfl
 ·rw[if_neg h0]
  generalize allF L=e at*
  refine vspec_flat rfl rfl (fun _ _=>rfl) (Nat.le_of_ble_eq_true rfl) (oldVals w) rfl fun C hC h0=>?_
  simp (disch:=first|omega|assumption|exact bd (by with_unfolding_all rfl)|exact Or.inl rfl|(simp only[VVlen]<;>omega)|fail) only[O1,WA,slotsL,opdsA,Nat.reduceEqDiff,Nat.reduceLT,Nat.reduceAdd,Nat.reduceBEq,Int.reduceAdd,Int.reduceSub,Int.reduceLT,Int.reduceLE,Int.reduceEq,Int.reduceNeg,↓reduceIte,reduceCtorEq,List.replicate,c10]
  refine callV_flat (by rw[hC];exact ha.flat rfl rfl) ?_
  simp (disch:=first|omega|assumption|exact bd (by with_unfolding_all rfl)|exact Or.inl rfl|(simp only[VVlen]<;>omega)|fail) only[O1,WA,slotsL,opdsA,Nat.reduceEqDiff,Nat.reduceLT,Nat.reduceAdd,Nat.reduceBEq,Int.reduceAdd,Int.reduceSub,Int.reduceLT,Int.reduceLE,Int.reduceEq,Int.reduceNeg,↓reduceIte,reduceCtorEq,List.replicate]
  all_goals try (exfalso;omega)
  exact weak_flat rfl h0 rfl
theorem rcheck_p (x:Sti) (hk:x.kind<256):VSpec (EN w (n+1)) 53 [stiV x] (.sc (.int .i64 (if stiOK x=true then 0 else 8))) ⟨[],0,0⟩:=by
 have go:∀ e:Int,(StiP x∧e=0)∨(¬ StiP x∧e=8)→VSpec (EN w (n+1)) 53 [stiV x] (.sc (.int .i64 e)) ⟨[],0,0⟩:=by
  obtain ⟨k,p,a,b⟩:=x
  unfold StiP
  simp only at hk ⊢
  rcases (by omega:k=1∨k=2∨k=3∨k=4∨k=5∨k=6∨k=7∨k=8∨k=9∨k=10∨k=0∨10<k) with rfl|rfl|rfl|rfl|rfl|rfl|rfl|rfl|rfl|rfl|rfl|h10
  all_goals
   rintro e (⟨he,rfl⟩|⟨he,rfl⟩)
  all_goals
   cases p
  all_goals
   simp (config:={decide:=true}) only[reduceCtorEq,false_and,and_false,false_or,or_false,true_or,or_true,true_and,and_true,not_true_eq_false,not_false_eq_true] at he
  all_goals
   refine vspec_flat rfl rfl (fun _ _=>rfl) (Nat.le_of_ble_eq_true rfl) (oldVals w) rfl fun C hC h0=>?_
   repeat' (first|(simp (disch:=first|omega|assumption|exact bd (by with_unfolding_all rfl)|exact Or.inl rfl|(simp only[VVlen]<;>omega)|fail) only[O1,WA,slotsL,opdsA,Nat.reduceEqDiff,Nat.reduceLT,Nat.reduceAdd,Nat.reduceBEq,Int.reduceAdd,Int.reduceSub,Int.reduceLT,Int.reduceLE,Int.reduceEq,Int.reduceNeg,↓reduceIte,reduceCtorEq,List.replicate,c53])|(apply gG_dec<;>intro _))
  all_goals try (exfalso;omega)
  all_goals exact weak_flat rfl h0 rfl
 refine go _ ?_
 by_cases h:StiP x
 ·exact .inl ⟨h,by rw[if_pos (stiOK_iff.2 h)]⟩
 ·exact .inr ⟨h,by rw[if_neg fun hh=>h (stiOK_iff.1 hh)]⟩
theorem rused_p (x:Sti) (hx:StiP x):VSpec (EN w (n+1)) 75 [stiV x] (.sc (.int .i64 (usedS x))) ⟨[],0,0⟩∧VSpec (EN w (n+1)) 76 [stiV x] (.sc (.int .i64 (madeS x))) ⟨[],0,0⟩:=by
 have hb:=hx.bounds
 obtain ⟨k,p,a,b⟩:=x
 simp only at hb
 clear hx
 constructor
 all_goals
  rcases (by omega:k=1∨k=2∨k=3∨k=4∨k=5∨k=6∨k=7∨k=8∨k=9∨k=10) with rfl|rfl|rfl|rfl|rfl|rfl|rfl|rfl|rfl|rfl
  all_goals
   refine vspec_flat rfl rfl (fun _ _=>rfl) (Nat.le_of_ble_eq_true rfl) (oldVals w) rfl fun C hC h0=>?_
   repeat' (first|(simp (disch:=first|omega|assumption|exact bd (by with_unfolding_all rfl)|exact Or.inl rfl|(simp only[VVlen]<;>omega)|fail) only[O1,WA,slotsL,opdsA,Nat.reduceEqDiff,Nat.reduceLT,Nat.reduceAdd,Nat.reduceBEq,Int.reduceAdd,Int.reduceSub,Int.reduceLT,Int.reduceLE,Int.reduceEq,Int.reduceNeg,↓reduceIte,reduceCtorEq,List.replicate,c75,c76]))
   exact weak_flat rfl h0 rfl
theorem rsums_p (s:Nat) (L:List Sti) (hL:L.length≤200) (hok:L.all stiOK=true):VSpec (EN w (n+2)) 54 [.sl s L.length (stiD L)] (.tup [.sc (.int .i64 (sumS usedS L)),.sc (.int .i64 (sumS madeS L))]) ⟨[],0,0⟩:=by
 refine vspec_flat rfl rfl (fun _ _=>rfl) (Nat.le_of_ble_eq_true rfl) (oldVals w) rfl fun C hC h0=>?_
 have hrn:C.E.rounds=many:=by rw[hC,callP_rounds]
 have hil:=stiD_len L
 simp (disch:=first|omega|assumption|exact bd (by with_unfolding_all rfl)|exact Or.inl rfl|(simp only[VVlen]<;>omega)|fail) only[O1,WA,slotsL,opdsA,Nat.reduceEqDiff,Nat.reduceLT,Nat.reduceAdd,Nat.reduceBEq,Int.reduceAdd,Int.reduceSub,Int.reduceLT,Int.reduceLE,Int.reduceEq,Int.reduceNeg,↓reduceIte,reduceCtorEq,List.replicate,c54]
 all_goals try (exfalso;omega)
 refine g_while (fun m fr st=>∃ (k:Nat),m=L.length - k∧k≤L.length∧fr= [(0,.sl s L.length (stiD L)),(4,.sc (.int .i64 (sumS usedS (L.take k)))),(5,.sc (.int .i64 (sumS madeS (L.take k)))),(6,.sc (.int .i64 k))]∧st=⟨[],0,0⟩) L.length ?_ ⟨_,_,.refl _ _,0,by omega,Nat.zero_le _,rfl,rfl⟩ ?_
 ·rw[hrn];unfold many;omega
 rintro m fr st ⟨k,rfl,hk,rfl,rfl⟩
 by_cases hlt:k<L.length
 case neg=>
  have:k=L.length:=by omega
  subst this
  rw[List.take_length]
  simp (disch:=first|omega|assumption|exact bd (by with_unfolding_all rfl)|exact Or.inl rfl|(simp only[VVlen]<;>omega)|fail) only[O1,WA,slotsL,opdsA,Nat.reduceEqDiff,Nat.reduceLT,Nat.reduceAdd,Nat.reduceBEq,Int.reduceAdd,Int.reduceSub,Int.reduceLT,Int.reduceLE,Int.reduceEq,Int.reduceNeg,↓reduceIte,reduceCtorEq,List.replicate,c54l0]
  all_goals try (exfalso;omega)
  exact weak_flat rfl h0 rfl
 have hag:=stiD_agg L k hlt
 have u1:=sumS_take (f:=usedS) hlt
 have u2:=sumS_take (f:=madeS) hlt
 have htk:∀ x ∈ L.take k,StiP x:=fun x hx=>stiOK_iff.1 (List.all_eq_true.1 hok x (List.mem_of_mem_take hx))
 have b1:=sum_bound (f:=usedS) fun x hx=>(used_bound (htk x hx)).1
 have b2:=sum_bound (f:=madeS) fun x hx=>(used_bound (htk x hx)).2
 have hl2:(L.take k).length≤200:=by rw[List.length_take];omega
 have hx:StiP L[k]! :=stiOK_iff.1 (List.all_eq_true.1 hok _ (by rw[getElem!_pos _ k hlt];exact List.getElem_mem hlt))
 generalize L[k]! =X at*
 have c1:=used_bound hx
 obtain ⟨l1,l2⟩:=rused_p w n X hx
 generalize sumS usedS (L.take k)=U at*
 generalize sumS madeS (L.take k)=M at*
 generalize usedS X=uu at*
 generalize madeS X=mm at*
 obtain ⟨xk,xp,xa,xb⟩:=X
 simp (disch:=first|omega|assumption|exact bd (by with_unfolding_all rfl)|exact Or.inl rfl|(simp only[VVlen]<;>omega)|fail) only[O1,WA,slotsL,opdsA,Nat.reduceEqDiff,Nat.reduceLT,Nat.reduceAdd,Nat.reduceBEq,Int.reduceAdd,Int.reduceSub,Int.reduceLT,Int.reduceLE,Int.reduceEq,Int.reduceNeg,↓reduceIte,reduceCtorEq,List.replicate,c54l0,hag]
 all_goals try (exfalso;omega)
 refine callV_flat (by rw[hC];exact l1.flat rfl rfl) ?_
 simp (disch:=first|omega|assumption|exact bd (by with_unfolding_all rfl)|exact Or.inl rfl|(simp only[VVlen]<;>omega)|fail) only[O1,WA,slotsL,opdsA,Nat.reduceEqDiff,Nat.reduceLT,Nat.reduceAdd,Nat.reduceBEq,Int.reduceAdd,Int.reduceSub,Int.reduceLT,Int.reduceLE,Int.reduceEq,Int.reduceNeg,↓reduceIte,reduceCtorEq,List.replicate,hag]
 refine callV_flat (by rw[hC];exact l2.flat rfl rfl) ?_
 simp (disch:=first|omega|assumption|exact bd (by with_unfolding_all rfl)|exact Or.inl rfl|(simp only[VVlen]<;>omega)|fail) only[O1,WA,slotsL,opdsA,Nat.reduceEqDiff,Nat.reduceLT,Nat.reduceAdd,Nat.reduceBEq,Int.reduceAdd,Int.reduceSub,Int.reduceLT,Int.reduceLE,Int.reduceEq,Int.reduceNeg,↓reduceIte,reduceCtorEq,List.replicate]
 all_goals try (exfalso;omega)
 refine ⟨L.length - (k+1),_,_,by omega,.refl _ _,k+1,rfl,by omega,?_,rfl⟩
 rw[u1,u2]
 rfl
theorem rall_p (s:Nat) (L:List Sti) (hL:L.length≤140737488351232) (hK:KOK L):VSpec (EN w (n+3)) 29 [.sl s L.length (stiD L)] (.sc (.int .i64 (allF L))) ⟨[],0,0⟩:=by
 refine vspec_flat rfl rfl (fun _ _=>rfl) (Nat.le_of_ble_eq_true rfl) (oldVals w) rfl fun C hC h0=>?_
 have hrn:C.E.rounds=many:=by rw[hC,callP_rounds]
 have hil:=stiD_len L
 unfold allF
 by_cases h2:200<L.length
 ·rw[if_pos h2]
  simp (disch:=first|omega|assumption|exact bd (by with_unfolding_all rfl)|exact Or.inl rfl|(simp only[VVlen]<;>omega)|fail) only[O1,WA,slotsL,opdsA,Nat.reduceEqDiff,Nat.reduceLT,Nat.reduceAdd,Nat.reduceBEq,Int.reduceAdd,Int.reduceSub,Int.reduceLT,Int.reduceLE,Int.reduceEq,Int.reduceNeg,↓reduceIte,reduceCtorEq,List.replicate,c29]
  all_goals try (exfalso;omega)
  exact weak_flat rfl h0 rfl
 rw[if_neg h2]
 simp (disch:=first|omega|assumption|exact bd (by with_unfolding_all rfl)|exact Or.inl rfl|(simp only[VVlen]<;>omega)|fail) only[O1,WA,slotsL,opdsA,Nat.reduceEqDiff,Nat.reduceLT,Nat.reduceAdd,Nat.reduceBEq,Int.reduceAdd,Int.reduceSub,Int.reduceLT,Int.reduceLE,Int.reduceEq,Int.reduceNeg,↓reduceIte,reduceCtorEq,List.replicate,c29]
 all_goals try (exfalso;omega)
 refine g_while (fun m fr st=>∃ (k:Nat),m=L.length - k∧k≤L.length∧(L.take k).all stiOK=true∧fr= [(0,.sl s L.length (stiD L)),(3,.sc (.int .i64 k))]∧st=⟨[],0,0⟩) L.length ?_ ⟨_,_,.refl _ _,0,by omega,Nat.zero_le _,rfl,rfl,rfl⟩ ?_
 ·rw[hrn];unfold many;omega
 rintro m fr st ⟨k,rfl,hk,hall,rfl,rfl⟩
 by_cases hlt:k<L.length
 ·have hag:=stiD_agg L k hlt
  have hc:=rcheck_p w (n+1) L[k]! (hK.at hlt)
  cases hx:stiOK L[k]! with
  |true=>
   have hst:=stis_take hlt hall hx
   rw[hx,if_pos rfl] at hc
   generalize L[k]! =X at*
   obtain ⟨xk,xp,xa,xb⟩:=X
   simp (disch:=first|omega|assumption|exact bd (by with_unfolding_all rfl)|exact Or.inl rfl|(simp only[VVlen]<;>omega)|fail) only[O1,WA,slotsL,opdsA,Nat.reduceEqDiff,Nat.reduceLT,Nat.reduceAdd,Nat.reduceBEq,Int.reduceAdd,Int.reduceSub,Int.reduceLT,Int.reduceLE,Int.reduceEq,Int.reduceNeg,↓reduceIte,reduceCtorEq,List.replicate,c29l0,hag]
   all_goals try (exfalso;omega)
   refine callV_flat (by rw[hC];exact hc.flat rfl rfl) ?_
   simp (disch:=first|omega|assumption|exact bd (by with_unfolding_all rfl)|exact Or.inl rfl|(simp only[VVlen]<;>omega)|fail) only[O1,WA,slotsL,opdsA,Nat.reduceEqDiff,Nat.reduceLT,Nat.reduceAdd,Nat.reduceBEq,Int.reduceAdd,Int.reduceSub,Int.reduceLT,Int.reduceLE,Int.reduceEq,Int.reduceNeg,↓reduceIte,reduceCtorEq,List.replicate]
   exact ⟨L.length - (k+1),_,_,by omega,.refl _ _,k+1,rfl,by omega,hst,rfl,rfl⟩
  |false=>
   rw[if_neg (stis_bad hlt hx)]
   rw[hx,if_neg (by decide)] at hc
   generalize L[k]! =X at*
   obtain ⟨xk,xp,xa,xb⟩:=X
   simp (disch:=first|omega|assumption|exact bd (by with_unfolding_all rfl)|exact Or.inl rfl|(simp only[VVlen]<;>omega)|fail) only[O1,WA,slotsL,opdsA,Nat.reduceEqDiff,Nat.reduceLT,Nat.reduceAdd,Nat.reduceBEq,Int.reduceAdd,Int.reduceSub,Int.reduceLT,Int.reduceLE,Int.reduceEq,Int.reduceNeg,↓reduceIte,reduceCtorEq,List.replicate,c29l0,hag]
   all_goals try (exfalso;omega)
   refine callV_flat (by rw[hC];exact hc.flat rfl rfl) ?_
   simp (disch:=first|omega|assumption|exact bd (by with_unfolding_all rfl)|exact Or.inl rfl|(simp only[VVlen]<;>omega)|fail) only[O1,WA,slotsL,opdsA,Nat.reduceEqDiff,Nat.reduceLT,Nat.reduceAdd,Nat.reduceBEq,Int.reduceAdd,Int.reduceSub,Int.reduceLT,Int.reduceLE,Int.reduceEq,Int.reduceNeg,↓reduceIte,reduceCtorEq,List.replicate]
   exact weak_flat rfl h0 rfl
 ·have:k=L.length:=by omega
  subst this
  rw[List.take_length] at hall
  rw[if_pos hall]
  have hs:=rsums_p w n s L (by omega) hall
  generalize sumS usedS L=U at*
  generalize sumS madeS L=M at*
  by_cases hm:200<U∨200<M
  ·rw[if_pos hm]
   simp (disch:=first|omega|assumption|exact bd (by with_unfolding_all rfl)|exact Or.inl rfl|(simp only[VVlen]<;>omega)|fail) only[O1,WA,slotsL,opdsA,Nat.reduceEqDiff,Nat.reduceLT,Nat.reduceAdd,Nat.reduceBEq,Int.reduceAdd,Int.reduceSub,Int.reduceLT,Int.reduceLE,Int.reduceEq,Int.reduceNeg,↓reduceIte,reduceCtorEq,List.replicate,c29l0]
   all_goals try (exfalso;omega)
   refine callV_flat (by rw[hC];exact hs.flat rfl rfl) ?_
   repeat' (first|(simp (disch:=first|omega|assumption|exact bd (by with_unfolding_all rfl)|exact Or.inl rfl|(simp only[VVlen]<;>omega)|fail) only[O1,WA,slotsL,opdsA,Nat.reduceEqDiff,Nat.reduceLT,Nat.reduceAdd,Nat.reduceBEq,Int.reduceAdd,Int.reduceSub,Int.reduceLT,Int.reduceLE,Int.reduceEq,Int.reduceNeg,↓reduceIte,reduceCtorEq,List.replicate])|(apply gG_dec<;>intro _))
   all_goals try (exfalso;omega)
   all_goals exact weak_flat rfl h0 rfl
  ·rw[if_neg hm]
   simp (disch:=first|omega|assumption|exact bd (by with_unfolding_all rfl)|exact Or.inl rfl|(simp only[VVlen]<;>omega)|fail) only[O1,WA,slotsL,opdsA,Nat.reduceEqDiff,Nat.reduceLT,Nat.reduceAdd,Nat.reduceBEq,Int.reduceAdd,Int.reduceSub,Int.reduceLT,Int.reduceLE,Int.reduceEq,Int.reduceNeg,↓reduceIte,reduceCtorEq,List.replicate,c29l0]
   all_goals try (exfalso;omega)
   refine callV_flat (by rw[hC];exact hs.flat rfl rfl) ?_
   simp (disch:=first|omega|assumption|exact bd (by with_unfolding_all rfl)|exact Or.inl rfl|(simp only[VVlen]<;>omega)|fail) only[O1,WA,slotsL,opdsA,Nat.reduceEqDiff,Nat.reduceLT,Nat.reduceAdd,Nat.reduceBEq,Int.reduceAdd,Int.reduceSub,Int.reduceLT,Int.reduceLE,Int.reduceEq,Int.reduceNeg,↓reduceIte,reduceCtorEq,List.replicate]
   all_goals try (exfalso;omega)
   all_goals exact weak_flat rfl h0 rfl
theorem rsame_p (s t:Nat) (L M:List Sti) (hL:L.length≤140737488351232) (hM:M.length≤140737488351232):VSpec (EN w (n+1)) 14 [.sl s L.length (stiD L),.sl t M.length (stiD M)] (.sc (.bool (decide (L=M)))) ⟨[],0,0⟩:=by
 have hil:=stiD_len L
 have him:=stiD_len M
 by_cases hlen:L.length=M.length
 case neg=>
  rw[decide_eq_false fun h=>hlen (by rw[h])]
  refine vspec_flat rfl rfl (fun _ _=>rfl) (Nat.le_of_ble_eq_true rfl) (oldVals w) rfl fun C hC h0=>?_
  simp (disch:=first|omega|assumption|exact bd (by with_unfolding_all rfl)|exact Or.inl rfl|(simp only[VVlen]<;>omega)|fail) only[O1,WA,slotsL,opdsA,Nat.reduceEqDiff,Nat.reduceLT,Nat.reduceAdd,Nat.reduceBEq,Int.reduceAdd,Int.reduceSub,Int.reduceLT,Int.reduceLE,Int.reduceEq,Int.reduceNeg,↓reduceIte,reduceCtorEq,List.replicate,c14]
  all_goals try (exfalso;omega)
  exact weak_flat rfl h0 rfl
 refine vspec_flat rfl rfl (fun _ _=>rfl) (Nat.le_of_ble_eq_true rfl) (oldVals w) rfl fun C hC h0=>?_
 have hrn:C.E.rounds=many:=by rw[hC,callP_rounds]
 simp (disch:=first|omega|assumption|exact bd (by with_unfolding_all rfl)|exact Or.inl rfl|(simp only[VVlen]<;>omega)|fail) only[O1,WA,slotsL,opdsA,Nat.reduceEqDiff,Nat.reduceLT,Nat.reduceAdd,Nat.reduceBEq,Int.reduceAdd,Int.reduceSub,Int.reduceLT,Int.reduceLE,Int.reduceEq,Int.reduceNeg,↓reduceIte,reduceCtorEq,List.replicate,c14]
 all_goals try (exfalso;omega)
 refine g_while (fun m fr st=>∃ (k:Nat),m=L.length - k∧k≤L.length∧(∀ j,j<k→L[j]! =M[j]!)∧fr= [(0,.sl s L.length (stiD L)),(1,.sl t M.length (stiD M)),(5,.sc (.int .i64 k))]∧st=⟨[],0,0⟩) L.length ?_ ⟨_,_,.refl _ _,0,by omega,Nat.zero_le _,fun j hj=>absurd hj (Nat.not_lt_zero _),rfl,rfl⟩ ?_
 ·rw[hrn];unfold many;omega
 rintro m fr st ⟨k,rfl,hk,heq,rfl,rfl⟩
 by_cases hlt:k<L.length
 ·have hag:=stiD_agg L k hlt
  have hag2:=stiD_agg M k (by omega)
  by_cases hx:L[k]! =M[k]!
  ·have hnx:∀ j,j<k+1→L[j]! =M[j]! :=fun j hj=>by
    rcases Nat.lt_succ_iff_lt_or_eq.1 hj with h|h
    ·exact heq j h
    ·rw[h];exact hx
   rw[hx] at hag
   generalize M[k]! =X at*
   obtain ⟨xk,xp,xa,xb⟩:=X
   simp (disch:=first|omega|assumption|exact bd (by with_unfolding_all rfl)|exact Or.inl rfl|(simp only[VVlen]<;>omega)|fail) only[O1,WA,slotsL,opdsA,Nat.reduceEqDiff,Nat.reduceLT,Nat.reduceAdd,Nat.reduceBEq,Int.reduceAdd,Int.reduceSub,Int.reduceLT,Int.reduceLE,Int.reduceEq,Int.reduceNeg,↓reduceIte,reduceCtorEq,List.replicate,c14l0,hag,hag2,↓eqAgg_sti]
   all_goals try (exfalso;omega)
   exact ⟨L.length - (k+1),_,_,by omega,.refl _ _,k+1,rfl,by omega,hnx,rfl,rfl⟩
  ·have hd:decide (L=M)=false:=decide_eq_false fun h=>hx (by rw[h])
   rw[hd]
   have hdd:=decide_eq_false hx
   generalize L[k]! =X at*
   generalize M[k]! =Y at*
   obtain ⟨xk,xp,xa,xb⟩:=X
   obtain ⟨yk,yp,ya,yb⟩:=Y
   simp (disch:=first|omega|assumption|exact bd (by with_unfolding_all rfl)|exact Or.inl rfl|(simp only[VVlen]<;>omega)|fail) only[O1,WA,slotsL,opdsA,Nat.reduceEqDiff,Nat.reduceLT,Nat.reduceAdd,Nat.reduceBEq,Int.reduceAdd,Int.reduceSub,Int.reduceLT,Int.reduceLE,Int.reduceEq,Int.reduceNeg,↓reduceIte,reduceCtorEq,List.replicate,c14l0,hag,hag2,↓eqAgg_sti,hdd]
   all_goals try (exfalso;omega)
   exact weak_flat rfl h0 rfl
 ·have hd:decide (L=M)=true:=decide_eq_true (List.ext_getElem hlen fun j h1 h2=>by
   have:=heq j (by omega)
   rwa [getElem!_pos L j h1,getElem!_pos M j h2] at this)
  rw[hd]
  simp (disch:=first|omega|assumption|exact bd (by with_unfolding_all rfl)|exact Or.inl rfl|(simp only[VVlen]<;>omega)|fail) only[O1,WA,slotsL,opdsA,Nat.reduceEqDiff,Nat.reduceLT,Nat.reduceAdd,Nat.reduceBEq,Int.reduceAdd,Int.reduceSub,Int.reduceLT,Int.reduceLE,Int.reduceEq,Int.reduceNeg,↓reduceIte,reduceCtorEq,List.replicate,c14l0]
  all_goals try (exfalso;omega)
  exact weak_flat rfl h0 rfl
def greatB (l:Nat):Bool:=decide (60<l∧l≤200∨300<l)
theorem rgreat_p (s:Nat) (L:List Sti) (hL:L.length≤140737488351232):VSpec (EN w (n+1)) 9 [.sl s L.length (stiD L)] (.sc (.bool (greatB L.length))) ⟨[],0,0⟩:=by
 unfold greatB
 have go:∀ b:Bool,((60<L.length∧L.length≤200∨300<L.length)∧b=true)∨(¬ (60<L.length∧L.length≤200∨300<L.length)∧b=false)→VSpec (EN w (n+1)) 9 [.sl s L.length (stiD L)] (.sc (.bool b)) ⟨[],0,0⟩:=by
  rintro b (⟨h,rfl⟩|⟨h,rfl⟩)
  all_goals
   refine vspec_flat rfl rfl (fun _ _=>rfl) (Nat.le_of_ble_eq_true rfl) (oldVals w) rfl fun C hC h0=>?_
   repeat' (first|(simp (disch:=first|omega|assumption|exact bd (by with_unfolding_all rfl)|exact Or.inl rfl|(simp only[VVlen]<;>omega)|fail) only[O1,WA,slotsL,opdsA,Nat.reduceEqDiff,Nat.reduceLT,Nat.reduceAdd,Nat.reduceBEq,Int.reduceAdd,Int.reduceSub,Int.reduceLT,Int.reduceLE,Int.reduceEq,Int.reduceNeg,↓reduceIte,reduceCtorEq,List.replicate,c9])|(apply gG_dec<;>intro _))
   all_goals try (exfalso;omega)
   all_goals exact weak_flat rfl h0 rfl
 by_cases h:60<L.length∧L.length≤200∨300<L.length
 ·exact go _ (.inl ⟨h,decide_eq_true h⟩)
 ·exact go _ (.inr ⟨h,decide_eq_false h⟩)
end
set_option maxHeartbeats 2000000
theorem dd_split (x:Nat):Lib.decDigits x=(if x / 10=0 then [] else Lib.decDigits (x / 10))++ [UInt8.ofNat (48+x % 10)]:=by
 by_cases h:x<10
 ·rw[Lib.decDigits,dif_pos h,if_pos (by omega),show x % 10=x by omega];rfl
 ·rw[Lib.decDigits,dif_neg h,if_neg (by omega)]
theorem dig_val {b:UInt8} (h:isDig b=true):Lib.digitVal b=some (b.toNat - 48):=by
 simp only[isDig,Bool.and_eq_true,decide_eq_true_eq] at h
 unfold Lib.digitVal
 rw[if_pos h]
section
variable (w:World) (n:Nat)
theorem decimal_p (x:Nat) (hx:x≤1000000000000):VSpec (EN w (n+1)) 64 [.sc (.int .i64 x)] (strV (Lib.decDigits x)) ⟨[],0,0⟩:=by
 refine vspec_flat rfl rfl (fun _ _=>rfl) (Nat.le_of_ble_eq_true rfl) (oldVals w) rfl fun C hC h0=>?_
 have hs1:∀ (c:UInt8) (s:List UInt8),s.length≤2000000000000→(ByteArray.mk [c].toArray).size+(ByteArray.mk s.toArray).size<9223372036854775807:=fun c s h=>by
  show 1+s.toArray.size<_
  simp;omega
 have e1:(x:Int) % 10=((x % 10:Nat):Int):=by omega
 have e2:(x:Int) / 10=((x / 10:Nat):Int):=by omega
 have e4:(48:Int)+((x % 10:Nat):Int)=((48+x % 10:Nat):Int):=by omega
 have e3:=wrap_byte (48+x % 10) (by omega)
 have e5:=b2s_one (o:=0) (t:=5) (g:=false) (z:=false) (H:= [(0,.row 5 1 false false [.sc (.int .u8 ((48+x % 10:Nat):Int))])]) (48+x % 10) (by omega) rfl 1
 simp (disch:=first|omega|assumption|exact bd (by with_unfolding_all rfl)|exact Or.inl rfl|(simp only[VVlen]<;>omega)|fail) only[O1,WA,Nat.reduceEqDiff,Nat.reduceLT,↓reduceIte,reduceCtorEq,c64,e1,e2,e4,e3,e5]
 refine g_while (fun m fr st=>∃ (k:Nat) (s:List UInt8),m=k∧k≤x∧Lib.decDigits x=(if k=0 then [] else Lib.decDigits k)++s∧s.length+k≤x+1∧fr= [(0,.sc (.int .i64 k)),(3,strV s)]∧st=⟨[],0,0⟩) (x / 10) ?_ ⟨_,_,weak_to [] 0 h0 rfl rfl rfl rfl,x / 10,[UInt8.ofNat (48+x % 10)],?_⟩ ?_
 ·rw[hC,callP_rounds];unfold many;omega
 ·exact ⟨rfl,by omega,dd_split x,by simp;omega,rfl,rfl⟩
 rintro k fr st ⟨_,s,rfl,hk,hd,hsl,rfl,rfl⟩
 by_cases hlt:0<k
 ·rw[if_neg (by omega),dd_split k] at hd
  have e1:(k:Int) % 10=((k % 10:Nat):Int):=by omega
  have e2:(k:Int) / 10=((k / 10:Nat):Int):=by omega
  have e4:(48:Int)+((k % 10:Nat):Int)=((48+k % 10:Nat):Int):=by omega
  have e3:=wrap_byte (48+k % 10) (by omega)
  have e5:=b2s_one (o:=0) (t:=5) (g:=false) (z:=false) (H:= [(0,.row 5 1 false false [.sc (.int .u8 ((48+k % 10:Nat):Int))])]) (48+k % 10) (by omega) rfl 1
  simp (disch:=first|omega|assumption|exact bd (by with_unfolding_all rfl)|exact Or.inl rfl|(simp only[VVlen]<;>omega)|fail) only[O1,WA,Nat.reduceEqDiff,Nat.reduceLT,↓reduceIte,reduceCtorEq,c64l0,e1,e2,e4,e3,e5,b_sadd _ _ (hs1 (UInt8.ofNat (48+k % 10)) s (by omega)),bytes_cat]
  all_goals try (exfalso;omega)
  refine ⟨_,_,_,?_,weak_to [] 0 h0 rfl rfl rfl rfl,k / 10,UInt8.ofNat (48+k % 10)::s,rfl,by omega,?_,by simp;omega,?_,?_⟩
  ·omega
  ·rw[hd];simp
  ·simp[renF,vren]
  ·simp[renH]
 ·have:k=0:=by omega
  subst this
  rw[hd]
  simp (disch:=first|omega|assumption|exact bd (by with_unfolding_all rfl)|exact Or.inl rfl|(simp only[VVlen]<;>omega)|fail) only[O1,WA,Nat.reduceEqDiff,Nat.reduceLT,↓reduceIte,reduceCtorEq,c64l0]
  all_goals try (exfalso;omega)
  exact weak_flat rfl h0 rfl
def num4V (r:Option Int):V:= .tup [.sc (.int .i64 (r.getD 0)),.sc (.bool r.isSome)]
theorem num25_p (l:List UInt8) (hl:l.length≤1000000):VSpec (EN w (n+1)) 85 [strV l] (num4V (num4 l)) ⟨[],0,0⟩:=by
 refine vspec_flat rfl rfl (fun _ _=>rfl) (Nat.le_of_ble_eq_true rfl) (oldVals w) (by cases num4 l<;>rfl) fun C hC h0=>?_
 have hsz:=mk_size l
 have no:¬ (l ≠ []∧l.length≤4∧(1<l.length→l[0]! ≠ 48)∧l.all isDig=true)→num4 l=none:=fun h=>by unfold num4;rw[if_neg h]
 by_cases h1:l.length=0∨4<l.length
 ·rw[no (fun h=>by
   have:=List.length_pos_iff.2 h.1
   omega)]
  repeat' (first|(simp (disch:=first|omega|assumption|exact bd (by with_unfolding_all rfl)|exact Or.inl rfl|(simp only[VVlen]<;>omega)|fail) only[O1,WA,Nat.reduceEqDiff,Nat.reduceLT,↓reduceIte,reduceCtorEq,c85,num4V])|(apply gG_dec<;>intro _))
  all_goals try (exfalso;omega)
  all_goals exact weak_flat rfl h0 rfl
 have hb0:=idxStr_l l .i64 (0:Nat) (by omega) (by omega)
 have hx48:((l[0]!.toNat:Nat):Int)=48↔l[0]! =48:=by
  constructor
  ·intro h;apply UInt8.toNat_inj.1;rw[show (48:UInt8).toNat=48 by rfl];omega
  ·intro h;rw[h];rfl
 rw[Int.toNat_natCast] at hb0
 simp only[Int.natCast_zero] at hb0
 by_cases h2:1<l.length∧l[0]! =48
 ·rw[no (fun h=>h.2.2.1 h2.1 h2.2)]
  have h3:=hx48.2 h2.2
  generalize l[0]!.toNat=B at*
  simp (disch:=first|omega|assumption|exact bd (by with_unfolding_all rfl)|exact Or.inl rfl|(simp only[VVlen]<;>omega)|fail) only[O1,WA,Nat.reduceEqDiff,Nat.reduceLT,↓reduceIte,reduceCtorEq,c85,num4V,hb0]
  all_goals try (exfalso;omega)
  all_goals exact weak_flat rfl h0 rfl
 have h3:1<l.length→¬ ((l[0]!.toNat:Nat):Int)=48:=fun h hh=>h2 ⟨h,hx48.1 hh⟩
 have h3:¬ 1<l.length∨¬ ((l[0]!.toNat:Nat):Int)=48:=by
  by_cases h:1<l.length
  ·exact .inr (h3 h)
  ·exact .inl h
 have hR:l.all isDig=true→num4 l=some (((Lib.decFrom 0 l).getD 0:Nat):Int):=fun h=>by
  unfold num4
  rw[if_pos ⟨List.length_pos_iff.1 (by omega),by omega,fun h5=>fun h6=>h2 ⟨h5,h6⟩,h⟩]
 generalize l[0]!.toNat=B at hb0 h3
 repeat' (first|(simp (disch:=first|omega|assumption|exact bd (by with_unfolding_all rfl)|exact Or.inl rfl|(simp only[VVlen]<;>omega)|fail) only[O1,WA,Nat.reduceEqDiff,Nat.reduceLT,↓reduceIte,reduceCtorEq,c85,hb0])|(apply gG_dec<;>intro _))
 all_goals try (exfalso;omega)
 all_goals
  refine g_while (fun m fr st=>∃ k u:Nat,m=l.length - k∧k≤l.length∧u<10 ^ k∧(∀ j,j<k→isDig l[j]! =true)∧Lib.decFrom 0 (l.take k)=some u∧fr= [(0,strV l),(4,.sc (.int .i64 u)),(5,.sc (.int .i64 k))]∧st=⟨[],0,0⟩) l.length ?_ ⟨_,_,.refl _ _,0,0,?_⟩ ?_
  ·rw[hC,callP_rounds];unfold many;omega
  ·exact ⟨by omega,by omega,by decide,(fun j hj=>absurd hj (Nat.not_lt_zero _)),rfl,rfl,rfl⟩
  rintro m fr st ⟨k,u,rfl,hk,hu,hd,hf,rfl,rfl⟩
  have hu9:u<10000:=Nat.lt_of_lt_of_le hu (by have:=Nat.pow_le_pow_right (show 1≤10 by omega) (show k≤4 by omega);simpa using this)
  by_cases hlt:k<l.length
  ·have hb:=idxStr_l l .i64 k (by omega) (by omega)
   rw[Int.toNat_natCast] at hb
   by_cases hdg:isDig l[k]! =true
   ·have hdg1:=hdg
    have hv:=dig_val hdg
    have hstep:=Lib.decFrom_take l k 0 u l[k]! _ hf (by rw[List.getElem?_eq_getElem hlt,getElem!_pos l k hlt]) hv
    have hnx:=lt_succ_cases hd hdg
    simp only[isDig,Bool.and_eq_true,decide_eq_true_eq] at hdg1
    generalize l[k]!.toNat=b at hb hstep hdg1
    have e1:IntKind.u8.wrap ((b:Int) - 48)=((b - 48:Nat):Int):=by rw[wrap_u8 _ (by omega) (by omega)];omega
    repeat' (first|(simp (disch:=first|omega|assumption|exact bd (by with_unfolding_all rfl)|exact Or.inl rfl|(simp only[VVlen]<;>omega)|fail) only[O1,WA,Nat.reduceEqDiff,Nat.reduceLT,↓reduceIte,reduceCtorEq,c85l0,hb,e1]))
    all_goals try (exfalso;omega)
    refine ⟨_,_,_,by omega,.refl _ _,k+1,u*10+(b - 48),rfl,hlt,?_,hnx,hstep,?_,rfl⟩
    ·rw[Nat.pow_succ];omega
    ·have:(10:Int)*u+((b - 48:Nat):Int)=((u*10+(b - 48):Nat):Int):=by omega
     rw[this];simp
   ·have e:num4 l=none:=no fun h=>hdg (List.all_eq_true.1 h.2.2.2 l[k]! (by rw[getElem!_pos l k hlt];exact List.getElem_mem hlt))
    rw[e]
    have hdg2:¬ (48≤l[k]!.toNat∧l[k]!.toNat≤57):=fun h=>hdg (by simp only[isDig,Bool.and_eq_true,decide_eq_true_eq];exact h)
    generalize l[k]!.toNat=b at hb hdg2
    repeat' (first|(simp (disch:=first|omega|assumption|exact bd (by with_unfolding_all rfl)|exact Or.inl rfl|(simp only[VVlen]<;>omega)|fail) only[O1,WA,Nat.reduceEqDiff,Nat.reduceLT,↓reduceIte,reduceCtorEq,c85l0,hb,num4V])|(apply gG_dec<;>intro _))
    all_goals try (exfalso;omega)
    all_goals exact weak_flat rfl h0 rfl
  ·have:k=l.length:=by omega
   subst this
   rw[List.take_length] at hf
   have hall:l.all isDig=true:=List.all_eq_true.2 fun c hc=>by
    obtain ⟨i,hi,rfl⟩:=List.getElem_of_mem hc
    have:=hd i hi
    rw[getElem!_pos l i hi] at this
    exact this
   rw[hR hall,hf]
   repeat' (first|(simp (disch:=first|omega|assumption|exact bd (by with_unfolding_all rfl)|exact Or.inl rfl|(simp only[VVlen]<;>omega)|fail) only[O1,WA,Nat.reduceEqDiff,Nat.reduceLT,↓reduceIte,reduceCtorEq,c85l0,num4V,Option.getD]))
   exact weak_flat rfl h0 rfl
theorem rcut_p (l:List UInt8) (c:UInt8) (hl:l.length≤1000000):VSpec (EN w (n+1)) 84 [strV l,.sc (.int .u8 c.toNat)] (.gr 2 0 (words c l).length) ⟨[(0,.gro 9 1 false ((words c l).map sD))],1,0⟩:=by
 refine vspec_g rfl rfl (fun _ _=>rfl) (Nat.le_of_ble_eq_true rfl) (oldVals w) (retOK_gr (map_nil_iff rfl)) rfl fun C hC h0=>?_
 have hrn:C.E.rounds=many:=by rw[hC,callP_rounds]
 have hsz:=mk_size l
 simp (disch:=first|omega|assumption|exact bd (by with_unfolding_all rfl)|exact Or.inl rfl|(simp only[VVlen]<;>omega)|fail) only[O1,WA,Nat.reduceEqDiff,Nat.reduceLT,↓reduceIte,reduceCtorEq,c84]
 refine g_while (fun m fr st=>∃ (dn:List (List UInt8)) (p x r:List UInt8),m=r.length+1∧l=p++(x++r)∧c ∉ x∧words c l=dn++words c (x++r)∧fr= [(0,strV l),(1,.sc (.int .u8 c.toNat)),(5,.gr 2 0 dn.length),(6,.sc (.int .i64 p.length)),(7,.sc (.int .i64 ((p.length+x.length:Nat):Int)))]∧st=⟨[(0,.gro 9 1 false (dn.map sD))],1,0⟩∨(m=0∧dn=words c l∧fr= [(0,strV l),(1,.sc (.int .u8 c.toNat)),(5,.gr 2 0 dn.length),(6,.sc (.int .i64 ((l.length:Int)+1))),(7,.sc (.int .i64 ((l.length:Int)+1)))]∧st=⟨[(0,.gro 9 1 false (dn.map sD))],1,0⟩)) (l.length+1) ?_ ⟨_,_,weak_nilSlot 5 9 1 rfl,[],[],[],l,.inl ⟨rfl,rfl,by simp,rfl,rfl,rfl⟩⟩ ?_
 ·rw[hrn];unfold many;omega
 rintro m fr st ⟨dn,p,x,r,⟨rfl,hlp,hx,hw,rfl,rfl⟩|⟨rfl,rfl,rfl,rfl⟩⟩
 case inr=>
  simp (disch:=first|omega|assumption|exact bd (by with_unfolding_all rfl)|exact Or.inl rfl|(simp only[VVlen]<;>omega)|fail) only[O1,WA,Nat.reduceEqDiff,Nat.reduceLT,↓reduceIte,reduceCtorEq,c84l0]
  all_goals try (exfalso;omega)
  exact .refl _ _
 have hll:l.length=p.length+(x.length+r.length):=by rw[hlp];simp
 have hwl:=(words_len (c:=c) l.length (s:=l) (Nat.le_refl _)).1
 have hdl:dn.length≤l.length:=by
  have h1:=congrArg List.length hw
  have h2:=List.length_pos_iff.2 (words_ne c (x++r))
  rw[List.length_append] at h1
  omega
 have hdm:(dn.map sD).length=dn.length:=by rw[List.length_map]
 have e1:=slcS_both l .i64 .i64 (p.length:Int) ((p.length+x.length:Nat):Int) (by omega) (by omega) (by omega)
 have e2:List.take (p.length+x.length - p.length) (List.drop p.length l)=x:=by
  rw[hlp,List.drop_left,Nat.add_sub_cancel_left,List.take_left]
 simp only[Int.toNat_natCast] at e1
 rw[e2] at e1
 cases r with
 |nil=>
  have hr0:([]:List UInt8).length=0:=rfl
  rw[List.append_nil,words_free hx] at hw
  have hpx:((p.length+x.length:Nat):Int)=(l.length:Int):=by omega
  have hxD:D.sc (Value.string ⟨x.toArray⟩)=sD x:=rfl
  simp (disch:=first|omega|assumption|exact bd (by with_unfolding_all rfl)|exact Or.inl rfl|(simp only[VVlen]<;>omega)|fail) only[O1,WA,Nat.reduceEqDiff,Nat.reduceLT,Nat.reduceAdd,↓reduceIte,reduceCtorEq,c84l0,e1,sD_dv]
  all_goals try (exfalso;omega)
  rw[hpx]
  refine ⟨_,_,_,by omega,weak_to [(2,0)] 1 h0 rfl rfl rfl rfl,dn++ [x],[],[],[],.inr ⟨rfl,hw.symm,?_,?_⟩⟩
  ·rw[List.length_append];rfl
  ·rw[List.map_append];rfl
 |cons b r=>
  have hr0:(b::r).length=r.length+1:=rfl
  have hb:=idxStr_l l .i64 ((p.length+x.length:Nat):Int) (by omega) (by omega)
  have hg:l[p.length+x.length]! =b:=by
   rw[hlp,← List.append_assoc,getElem!_pos _ _ (by simp),List.getElem_append_right (by simp)]
   simp
  rw[Int.toNat_natCast,hg] at hb
  by_cases hbc:b=c
  ·subst hbc
   rw[words_app r hx] at hw
   simp (disch:=first|omega|assumption|exact bd (by with_unfolding_all rfl)|exact Or.inl rfl|(simp only[VVlen]<;>omega)|fail) only[O1,WA,Nat.reduceEqDiff,Nat.reduceLT,Nat.reduceAdd,↓reduceIte,reduceCtorEq,c84l0,e1,hb,sD_dv]
   all_goals try (exfalso;omega)
   refine ⟨_,_,_,?_,weak_to [(2,0)] 1 h0 rfl rfl rfl rfl,dn++ [x],p++(x++ [b]),[],r,.inl ⟨rfl,by rw[hlp];simp,by simp,by rw[hw];simp,?_,?_⟩⟩
   ·omega
   ·have hpx:(p++(x++ [b])).length=p.length+x.length+1:=by simp;omega
    rw[hpx,List.length_append];rfl
   ·rw[List.map_append];rfl
  ·have hne:¬ ((b.toNat:Nat):Int)=((c.toNat:Nat):Int):=fun h=>hbc (UInt8.toNat_inj.1 (by omega))
   simp (disch:=first|omega|assumption|exact bd (by with_unfolding_all rfl)|exact Or.inl rfl|(simp only[VVlen]<;>omega)|fail) only[O1,WA,Nat.reduceEqDiff,Nat.reduceLT,↓reduceIte,reduceCtorEq,c84l0,e1,hb,hne,sD_dv]
   all_goals try (exfalso;omega)
   refine ⟨_,_,_,?_,.refl _ _,dn,p,x++ [b],r,.inl ⟨rfl,by rw[hlp];simp,?_,by rw[hw];simp,?_,rfl⟩⟩
   ·omega
   ·rw[List.mem_append,List.mem_singleton];rintro (h|h);exact hx h;exact hbc h.symm
   ·rw[List.length_append];rfl
theorem cutF_p (l:List UInt8) (c:UInt8) (hl:l.length≤1000000):VSpec (EN w (n+1)) 84 [strV l,.sc (.int .u8 c.toNat)] (.sl 2 (words c l).length ((words c l).map sD)) ⟨[],0,0⟩:=by
 refine (rcut_p w n l c hl).fin ?_ rfl rfl rfl (fun h=>by cases h)
 exact snap_grD rfl (by simp)
end
set_option maxHeartbeats 400000
section
variable (w:World) (n:Nat)
theorem rside_p (x:Sti):VSpec (EN w (n+1)) 77 [stiV x] (strV (sideB x.purl)) ⟨[],0,0⟩:=by
 obtain ⟨k,p,a,b⟩:=x
 cases p
 all_goals
  refine vspec_flat rfl rfl (fun _ _=>rfl) (Nat.le_of_ble_eq_true rfl) (oldVals w) rfl fun C hC h0=>?_
  repeat' (first|(simp (disch:=first|omega|assumption|exact bd (by with_unfolding_all rfl)|exact Or.inl rfl|(simp only[VVlen]<;>omega)|fail) only[O1,WA,Nat.reduceEqDiff,Nat.reduceLT,↓reduceIte,reduceCtorEq,c77]))
  exact weak_flat rfl h0 rfl
theorem rwise_p (x:Sti):VSpec (EN w (n+1)) 94 [stiV x] (strV (wiseB x.purl)) ⟨[],0,0⟩:=by
 obtain ⟨k,p,a,b⟩:=x
 cases p
 all_goals
  refine vspec_flat rfl rfl (fun _ _=>rfl) (Nat.le_of_ble_eq_true rfl) (oldVals w) rfl fun C hC h0=>?_
  repeat' (first|(simp (disch:=first|omega|assumption|exact bd (by with_unfolding_all rfl)|exact Or.inl rfl|(simp only[VVlen]<;>omega)|fail) only[O1,WA,Nat.reduceEqDiff,Nat.reduceLT,↓reduceIte,reduceCtorEq,c94]))
  exact weak_flat rfl h0 rfl
theorem rdec_p (z:Int) (h0:0≤z) (h1:z≤1000000):VSpec (EN w (n+1)) 64 [.sc (.int .i64 z)] (strV (Lib.itoa z)) ⟨[],0,0⟩:=by
 obtain ⟨u,rfl⟩:=Int.eq_ofNat_of_zero_le h0
 have:=decimal_p w n u (by omega)
 rwa [← Lib.itoa_nonneg] at this
theorem rbase_p (x:Sti) (hx:StiP x) (hc:x.kind ≠ 1∧x.kind ≠ 8):VSpec (EN w (n+2)) 78 [stiV x] (strV (join 32 (baseW x 1))) ⟨[],0,0⟩:=by
 have hb:=hx.bounds
 have d1:=rdec_p w n x.a (by omega) (by omega)
 have d2:=rdec_p w n x.b (by omega) (by omega)
 have hs:=rside_p w n x
 have hw:=rwise_p w n x
 have l2:=itoa_len4 (z:=x.a) (by omega) (by omega)
 have l3:=itoa_len4 (z:=x.b) (by omega) (by omega)
 have m1:max x.a 0=x.a:=by omega
 have m2:max x.b 0=x.b:=by omega
 obtain ⟨k,p,a,b⟩:=x
 simp only at hb hc d1 d2 hs hw l2 l3 m1 m2
 have hgo:∀ R:List UInt8,baseW ⟨k,p,a,b⟩ 1=baseW ⟨k,p,a,b⟩ 1:=fun _=>rfl
 unfold sideB at hs
 unfold wiseB at hw
 unfold baseW
 simp only
 generalize hA:Lib.itoa a=A at*
 generalize hB:Lib.itoa b=B at*
 clear hx hgo
 rcases (by omega:(k=2∨k=9)∨(k=3∨k=4)∨(k=5∨k=6∨k=7∨k=10)) with (rfl|rfl)|(rfl|rfl)|(rfl|rfl|rfl|rfl)
 iterate 2
  ·refine vspec_flat rfl rfl (fun _ _=>rfl) (Nat.le_of_ble_eq_true rfl) (oldVals w) rfl fun C hC h0=>?_
   repeat' (first|(simp (disch:=first|omega|assumption|exact bd (by with_unfolding_all rfl)|exact Or.inl rfl|(simp only[VVlen]<;>omega)|fail) only[O1,WA,slotsL,opdsA,Nat.reduceEqDiff,Nat.reduceLT,Nat.reduceAdd,↓reduceIte,reduceCtorEq,c78,mmV_max,m1,m2]))
   refine call0_of (by rw[hC];exact d1.flat rfl rfl) ?_
   refine callV_flat (by rw[hC];exact d2.flat rfl rfl) ?_
   repeat' (first|(simp (disch:=first|omega|assumption|exact bd (by with_unfolding_all rfl)|exact Or.inl rfl|(simp only[VVlen]<;>omega)|fail) only[O1,WA,Nat.reduceEqDiff,Nat.reduceLT,↓reduceIte,cat_l,List.append_assoc]))
   all_goals try (exfalso;omega)
   exact weak_flat rfl h0 rfl
 iterate 2
  ·cases p
   all_goals
    refine vspec_flat rfl rfl (fun _ _=>rfl) (Nat.le_of_ble_eq_true rfl) (oldVals w) rfl fun C hC h0=>?_
    repeat' (first|(simp (disch:=first|omega|assumption|exact bd (by with_unfolding_all rfl)|exact Or.inl rfl|(simp only[VVlen]<;>omega)|fail) only[O1,WA,slotsL,opdsA,Nat.reduceEqDiff,Nat.reduceLT,Nat.reduceAdd,↓reduceIte,reduceCtorEq,c78,mmV_max,m1,m2]))
    refine call0_of (by rw[hC];exact d1.flat rfl rfl) ?_
    refine callV_flat (by rw[hC];exact d2.flat rfl rfl) ?_
    repeat' (first|(simp (disch:=first|omega|assumption|exact bd (by with_unfolding_all rfl)|exact Or.inl rfl|(simp only[VVlen]<;>omega)|fail) only[O1,WA,Nat.reduceEqDiff,Nat.reduceLT,↓reduceIte]))
    refine callV_flat (by rw[hC];exact hs.flat rfl rfl) ?_
    repeat' (first|(simp (disch:=first|omega|assumption|exact bd (by with_unfolding_all rfl)|exact Or.inl rfl|(simp only[VVlen]<;>omega)|fail) only[O1,WA,Nat.reduceEqDiff,Nat.reduceLT,↓reduceIte,cat_l,List.append_assoc]))
    all_goals try (exfalso;omega)
    exact weak_flat rfl h0 rfl
 all_goals
  cases p
  all_goals
   refine vspec_flat rfl rfl (fun _ _=>rfl) (Nat.le_of_ble_eq_true rfl) (oldVals w) rfl fun C hC h0=>?_
   repeat' (first|(simp (disch:=first|omega|assumption|exact bd (by with_unfolding_all rfl)|exact Or.inl rfl|(simp only[VVlen]<;>omega)|fail) only[O1,WA,slotsL,opdsA,Nat.reduceEqDiff,Nat.reduceLT,Nat.reduceAdd,↓reduceIte,reduceCtorEq,c78,mmV_max,m1,m2]))
   refine call0_of (by rw[hC];exact d1.flat rfl rfl) ?_
   refine callV_flat (by rw[hC];exact d2.flat rfl rfl) ?_
   repeat' (first|(simp (disch:=first|omega|assumption|exact bd (by with_unfolding_all rfl)|exact Or.inl rfl|(simp only[VVlen]<;>omega)|fail) only[O1,WA,Nat.reduceEqDiff,Nat.reduceLT,↓reduceIte,cat_l,List.append_assoc]))
   refine callV_flat (by rw[hC];exact hw.flat rfl rfl) ?_
   repeat' (first|(simp (disch:=first|omega|assumption|exact bd (by with_unfolding_all rfl)|exact Or.inl rfl|(simp only[VVlen]<;>omega)|fail) only[O1,WA,Nat.reduceEqDiff,Nat.reduceLT,↓reduceIte,cat_l,List.append_assoc]))
   all_goals try (exfalso;omega)
   exact weak_flat rfl h0 rfl
theorem phraseS_base {x:Sti} (m:Int) (h:x.kind ≠ 1∧x.kind ≠ 8):phraseS x m=if 1<m then join 32 (baseW x 1)++32::(Lib.itoa m++timesE) else join 32 (baseW x 1):=by
 have e:baseW x m=baseW x 1:=by
  obtain ⟨k,p,a,b⟩:=x
  unfold baseW
  simp only at h ⊢
  split<;>first|rfl|(exfalso;omega)
 unfold phraseS phraseW timesW
 rw[e]
 by_cases h1:1<m
 ·rw[if_pos h1,if_pos ⟨h1,h.1,h.2⟩,show baseW x 1++ [Lib.itoa m,wTimes]=(baseW x 1++ [Lib.itoa m])++ [wTimes] from by simp,join_snoc _ _ (by simp),join_snoc _ _ (baseW_ne x 1)]
  simp[timesE]
 ·rw[if_neg h1,if_neg fun hh=>h1 hh.1,List.append_nil]
theorem rphrase_p (x:Sti) (hx:StiP x) (m:Int) (h0:1≤m) (h1:m≤1000):VSpec (EN w (n+3)) 55 [stiV x,.sc (.int .i64 m)] (strV (phraseS x m)) ⟨[],0,0⟩:=by
 have hb:=hx.bounds
 have d1:=rdec_p w (n+1) m (by omega) (by omega)
 have l1:=itoa_len4 (z:=m) (by omega) (by omega)
 by_cases hk:x.kind=1
 ·have hs:=rside_p w (n+1) x
  unfold StiP at hx
  obtain ⟨k,p,a,b⟩:=x
  simp only at hk hs
  subst hk
  have e:phraseS ⟨1,p,a,b⟩ m=sideB p++32::Lib.itoa m:=by
   unfold phraseS phraseW timesW
   rw[if_neg (by simp),List.append_nil]
   cases p<;>simp[baseW,sideW,join,sideB]
  rw[e]
  unfold sideB at hs ⊢
  generalize Lib.itoa m=A at*
  cases p
  all_goals
   refine vspec_flat rfl rfl (fun _ _=>rfl) (Nat.le_of_ble_eq_true rfl) (oldVals w) rfl fun C hC h0=>?_
   repeat' (first|(simp (disch:=first|omega|assumption|exact bd (by with_unfolding_all rfl)|exact Or.inl rfl|(simp only[VVlen]<;>omega)|fail) only[O1,WA,Nat.reduceEqDiff,Nat.reduceLT,↓reduceIte,reduceCtorEq,c55]))
   refine callV_flat (by rw[hC];exact d1.flat rfl rfl) ?_
   repeat' (first|(simp (disch:=first|omega|assumption|exact bd (by with_unfolding_all rfl)|exact Or.inl rfl|(simp only[VVlen]<;>omega)|fail) only[O1,WA,Nat.reduceEqDiff,Nat.reduceLT,↓reduceIte]))
   refine callV_flat (by rw[hC];exact hs.flat rfl rfl) ?_
   repeat' (first|(simp (disch:=first|omega|assumption|exact bd (by with_unfolding_all rfl)|exact Or.inl rfl|(simp only[VVlen]<;>omega)|fail) only[O1,WA,Nat.reduceEqDiff,Nat.reduceLT,↓reduceIte,cat_l,List.append_assoc]))
   all_goals try (exfalso;omega)
   exact weak_flat rfl h0 rfl
 by_cases hk8:x.kind=8
 ·obtain ⟨k,p,a,b⟩:=x
  simp only at hk8
  subst hk8
  have e:phraseS ⟨8,p,a,b⟩ m= [115,108,105,112]++32::(Lib.itoa m++if p=true then [32,119,105,116,104,32,121,97,114,110,32,105,110,32,102,114,111,110,116] else []):=by
   unfold phraseS phraseW timesW
   rw[if_neg (by simp),List.append_nil]
   cases p<;>simp[baseW,join]
  rw[e]
  clear e hx
  generalize Lib.itoa m=A at*
  cases p
  all_goals
   refine vspec_flat rfl rfl (fun _ _=>rfl) (Nat.le_of_ble_eq_true rfl) (oldVals w) rfl fun C hC h0=>?_
   repeat' (first|(simp (disch:=first|omega|assumption|exact bd (by with_unfolding_all rfl)|exact Or.inl rfl|(simp only[VVlen]<;>omega)|fail) only[O1,WA,Nat.reduceEqDiff,Nat.reduceLT,↓reduceIte,reduceCtorEq,c55]))
   refine callV_flat (by rw[hC];exact d1.flat rfl rfl) ?_
   repeat' (first|(simp (disch:=first|omega|assumption|exact bd (by with_unfolding_all rfl)|exact Or.inl rfl|(simp only[VVlen]<;>omega)|fail) only[O1,WA,Nat.reduceEqDiff,Nat.reduceLT,↓reduceIte,cat_l,List.append_assoc]))
   all_goals try (exfalso;omega)
   exact weak_flat rfl h0 rfl
 have hb1:=rbase_p w n x hx ⟨hk,hk8⟩
 have hlen:=phraseS_len hx (m:=1) (by decide) (by decide)
 rw[phraseS_base 1 ⟨hk,hk8⟩,if_neg (by decide)] at hlen
 rw[phraseS_base m ⟨hk,hk8⟩]
 generalize join 32 (baseW x 1)=J at*
 clear hx
 obtain ⟨k,p,a,b⟩:=x
 simp only at hb hk hk8
 by_cases hm:1<m
 ·rw[if_pos hm]
  generalize Lib.itoa m=A at*
  refine vspec_flat rfl rfl (fun _ _=>rfl) (Nat.le_of_ble_eq_true rfl) (oldVals w) rfl fun C hC h0=>?_
  simp (disch:=first|omega|assumption|exact bd (by with_unfolding_all rfl)|exact Or.inl rfl|(simp only[VVlen]<;>omega)|fail) only[O1,WA,Nat.reduceEqDiff,Nat.reduceLT,↓reduceIte,reduceCtorEq,c55]
  all_goals try (exfalso;omega)
  refine callV_flat (by rw[hC];exact d1.flat rfl rfl) ?_
  simp (disch:=first|omega|assumption|exact bd (by with_unfolding_all rfl)|exact Or.inl rfl|(simp only[VVlen]<;>omega)|fail) only[O1,WA,Nat.reduceEqDiff,Nat.reduceLT,↓reduceIte]
  all_goals try (exfalso;omega)
  refine callV_flat (by rw[hC];exact hb1.flat rfl rfl) ?_
  simp (disch:=first|omega|assumption|exact bd (by with_unfolding_all rfl)|exact Or.inl rfl|(simp only[VVlen]<;>omega)|fail) only[O1,WA,Nat.reduceEqDiff,Nat.reduceLT,↓reduceIte,cat_l,List.append_assoc]
  all_goals try (exfalso;omega)
  exact weak_flat rfl h0 rfl
 ·rw[if_neg hm]
  generalize Lib.itoa m=A at*
  refine vspec_flat rfl rfl (fun _ _=>rfl) (Nat.le_of_ble_eq_true rfl) (oldVals w) rfl fun C hC h0=>?_
  simp (disch:=first|omega|assumption|exact bd (by with_unfolding_all rfl)|exact Or.inl rfl|(simp only[VVlen]<;>omega)|fail) only[O1,WA,Nat.reduceEqDiff,Nat.reduceLT,↓reduceIte,reduceCtorEq,c55]
  all_goals try (exfalso;omega)
  refine callV_flat (by rw[hC];exact d1.flat rfl rfl) ?_
  simp (disch:=first|omega|assumption|exact bd (by with_unfolding_all rfl)|exact Or.inl rfl|(simp only[VVlen]<;>omega)|fail) only[O1,WA,Nat.reduceEqDiff,Nat.reduceLT,↓reduceIte]
  all_goals try (exfalso;omega)
  refine callV_flat (by rw[hC];exact hb1.flat rfl rfl) ?_
  repeat' (first|(simp (disch:=first|omega|assumption|exact bd (by with_unfolding_all rfl)|exact Or.inl rfl|(simp only[VVlen]<;>omega)|fail) only[O1,WA,slotsL,opdsA,Nat.reduceEqDiff,Nat.reduceLT,Nat.reduceAdd,Nat.reduceBEq,Int.reduceAdd,Int.reduceSub,Int.reduceLT,Int.reduceLE,Int.reduceEq,Int.reduceNeg,↓reduceIte,reduceCtorEq,List.replicate])|apply gC_drawW|((first|apply gI_dec|apply gG_dec|apply gPG_dec|apply gI_var|apply gG_var|apply gPG_var)<;>intro _))
  all_goals try (exfalso;omega)
  exact weak_flat rfl h0 rfl
end
section
variable (w:World) (n:Nat)
theorem rwords_inner {C:Ctx} (hC:C.E=EN w (n+3)) (s:Nat) (L:List Sti) (hL:L.length≤200) (j t:Nat) (hj:j+1+t≤L.length) (ht:∀ i,i<t→(L.drop (j+1))[i]! =L[j]!) (hn:t<(L.drop (j+1)).length→(L.drop (j+1))[t]! ≠ L[j]!) (q:V) (st:VSt) {K:List KF} {P:VPost}
  (hgo:gK C K (.exit 2) [(0,.sl s L.length (stiD L)),(3,q),(4,.sc (.int .i64 j)),(5,.sc (.int .i64 ((1+t:Nat):Int))),(31,.sc (.bool false))] st P):
  gL C [0,3,4,5] c30l0 K [(0,.sl s L.length (stiD L)),(3,q),(4,.sc (.int .i64 j)),(5,.sc (.int .i64 1))] st P:=by
 have hrn:C.E.rounds=many:=by rw[hC,callP_rounds]
 have hil:=stiD_len L
 have hdl:(L.drop (j+1)).length=L.length - (j+1):=List.length_drop
 refine g_while (fun m fr st'=>∃ k:Nat,m=t - k∧k≤t∧fr= [(0,.sl s L.length (stiD L)),(3,q),(4,.sc (.int .i64 j)),(5,.sc (.int .i64 ((1+k:Nat):Int)))]∧st'=st) t ?_ ⟨_,_,.refl _ _,0,by omega,Nat.zero_le _,rfl,rfl⟩ ?_
 ·rw[hrn];unfold many;omega
 rintro m fr st' ⟨k,rfl,hk,rfl,rfl⟩
 have hagj:=stiD_agg L j (by omega)
 have hjk:(j:Int)+((1+k:Nat):Int)=((j+1+k:Nat):Int):=by omega
 by_cases hlt:j+1+k<L.length
 ·have hag:=stiD_agg L (j+1+k) hlt
  have hdk:=drop_at! (L:=L) (j:=j+1) (i:=k) hlt
  by_cases hkt:k<t
  ·have he:=ht k hkt
   rw[hdk] at he
   rw[he] at hag
   generalize L[j]! =X at*
   obtain ⟨xk,xp,xa,xb⟩:=X
   simp (disch:=first|omega|assumption|exact bd (by with_unfolding_all rfl)|exact Or.inl rfl|(simp only[VVlen]<;>omega)|fail) only[O1,WA,slotsL,opdsA,Nat.reduceEqDiff,Nat.reduceLT,↓reduceIte,reduceCtorEq,c30l0,hjk,hag,hagj,↓eqAgg_sti]
   exact ⟨t - (k+1),_,_,by omega,.refl _ _,k+1,rfl,by omega,by rw[show ((1+k:Nat):Int)+1=((1+(k+1):Nat):Int) from by omega],rfl⟩
  ·have:k=t:=by omega
   subst this
   have he:=hn (by omega)
   rw[hdk] at he
   have hd:=decide_eq_false he
   generalize L[j]! =X at*
   generalize L[j+1+k]! =Y at*
   obtain ⟨xk,xp,xa,xb⟩:=X
   obtain ⟨yk,yp,ya,yb⟩:=Y
   simp (disch:=first|omega|assumption|exact bd (by with_unfolding_all rfl)|exact Or.inl rfl|(simp only[VVlen]<;>omega)|fail) only[O1,WA,slotsL,opdsA,Nat.reduceEqDiff,Nat.reduceLT,↓reduceIte,reduceCtorEq,c30l0,hjk,hag,hagj,↓eqAgg_sti,hd]
   exact hgo
 ·have:k=t:=by omega
  subst this
  simp (disch:=first|omega|assumption|exact bd (by with_unfolding_all rfl)|exact Or.inl rfl|(simp only[VVlen]<;>omega)|fail) only[O1,WA,slotsL,opdsA,Nat.reduceEqDiff,Nat.reduceLT,↓reduceIte,reduceCtorEq,c30l0,hjk]
  exact hgo
theorem rwords_p (s:Nat) (L:List Sti) (hL:L.length≤200) (hok:L.all stiOK=true):VSpec (EN w (n+4)) 30 [.sl s L.length (stiD L)] (strV (wordsS L)) ⟨[],0,0⟩:=by
 have hil:=stiD_len L
 have hrl:=runsS_len L
 have hP:∀ x ∈ L,StiP x:=fun x hx=>stiOK_iff.1 (List.all_eq_true.1 hok x hx)
 unfold wordsS
 by_cases hn:L= []
 ·subst hn
  rw[if_pos rfl]
  refine vspec_flat rfl rfl (fun _ _=>rfl) (Nat.le_of_ble_eq_true rfl) (oldVals w) rfl fun C hC h0=>?_
  simp (disch:=first|omega|assumption|exact bd (by with_unfolding_all rfl)|exact Or.inl rfl|(simp only[VVlen]<;>omega)|fail) only[O1,WA,Nat.reduceEqDiff,Nat.reduceLT,↓reduceIte,reduceCtorEq,c30]
  exact weak_flat rfl h0 rfl
 rw[if_neg hn]
 have hln:0<L.length:=List.length_pos_iff.2 hn
 refine vspec_flat rfl rfl (fun _ _=>rfl) (Nat.le_of_ble_eq_true rfl) (oldVals w) rfl fun C hC h0=>?_
 have hrn:C.E.rounds=many:=by rw[hC,callP_rounds]
 simp (disch:=first|omega|assumption|exact bd (by with_unfolding_all rfl)|exact Or.inl rfl|(simp only[VVlen]<;>omega)|fail) only[O1,WA,Nat.reduceEqDiff,Nat.reduceLT,↓reduceIte,reduceCtorEq,c30]
 all_goals try (exfalso;omega)
 refine g_while (fun m fr st=>∃ (j:Nat) (R:List (Sti × Nat)),m=L.length - j∧j≤L.length∧runsS L=R++runsS (L.drop j)∧(j=0↔R= [])∧fr= [(0,.sl s L.length (stiD L)),(3,strV (jnC (R.map phr))),(4,.sc (.int .i64 j))]∧st=⟨[],0,0⟩) L.length ?_ ⟨_,_,.refl _ _,0,[],by omega,Nat.zero_le _,rfl,⟨fun _=>rfl,fun _=>rfl⟩,rfl,rfl⟩ ?_
 ·rw[hrn];unfold many;omega
 rintro m fr st ⟨j,R,rfl,hj,hR,hjR,rfl,rfl⟩
 have hRl:R.length≤200:=by
  have:=congrArg List.length hR
  rw[List.length_append] at this
  omega
 have hlen:=jnC_len (R.map phr) 100 fun w hw=>by
  obtain ⟨r,hr,rfl⟩:=List.mem_map.1 hw
  have:=runsS_pos L r (by rw[hR];exact List.mem_append_left _ hr)
  exact phraseS_len (hP _ this.2.2) (by omega) (by omega)
 rw[List.length_map] at hlen
 by_cases hlt:j<L.length
 ·obtain ⟨t,h1,h2,h3,h4⟩:=runsS_step L[j]! (L.drop (j+1))
  rw[← drop_cons! hlt] at h4
  have hdl:(L.drop (j+1)).length=L.length - (j+1):=List.length_drop
  rw[hdl] at h1
  have hXP:StiP L[j]! :=hP _ (by rw[getElem!_pos _ j hlt];exact List.getElem_mem hlt)
  have hph:=rphrase_p w n L[j]! hXP ((1+t:Nat):Int) (by omega) (by omega)
  have hpl:=phraseS_len hXP (m:=((1+t:Nat):Int)) (by omega) (by omega)
  have hag:=stiD_agg L j hlt
  rw[List.drop_drop] at h4
  have hR2:runsS L=(R++ [(L[j]!,t+1)])++runsS (L.drop (j+1+t)):=by rw[hR,h4];simp
  have hphr:phr (L[j]!,t+1)=phraseS L[j]! ((1+t:Nat):Int):=by
   show phraseS _ ((t+1:Nat):Int)=_
   rw[Nat.add_comm]
  have hjn:jnC ((R++ [(L[j]!,t+1)]).map phr)=if R= [] then phraseS L[j]! ((1+t:Nat):Int) else jnC (R.map phr)++44::32::phraseS L[j]! ((1+t:Nat):Int):=by
   rw[List.map_append,List.map_cons,List.map_nil,hphr]
   by_cases hr:R= []
   ·subst hr;rfl
   ·rw[if_neg hr,jnC_snoc _ _ (by simp[hr])]
  generalize hJ:jnC (R.map phr)=J at*
  by_cases hj0:j=0
  ·subst hj0
   have hR0:=hjR.1 rfl
   rw[if_pos hR0] at hjn
   have hJ0:J= []:=by rw[← hJ,hR0];rfl
   subst hJ0
   simp (disch:=first|omega|assumption|exact bd (by with_unfolding_all rfl)|exact Or.inl rfl|(simp only[VVlen]<;>omega)|fail) only[O1,WA,Nat.reduceEqDiff,Nat.reduceLT,↓reduceIte,reduceCtorEq,c30l1]
   all_goals try (exfalso;omega)
   refine rwords_inner w n hC s L hL 0 t (by omega) h2 h3 _ _ ?_
   generalize L[0]! =X at*
   generalize phraseS X ((1+t:Nat):Int)=ph at*
   obtain ⟨xk,xp,xa,xb⟩:=X
   simp (disch:=first|omega|assumption|exact bd (by with_unfolding_all rfl)|exact Or.inl rfl|(simp only[VVlen]<;>omega)|fail) only[O1,WA,Nat.reduceEqDiff,Nat.reduceLT,↓reduceIte,reduceCtorEq,hag]
   refine callV_flat (by rw[hC];exact hph.flat rfl rfl) ?_
   simp (disch:=first|omega|assumption|exact bd (by with_unfolding_all rfl)|exact Or.inl rfl|(simp only[VVlen]<;>omega)|fail) only[O1,WA,Nat.reduceEqDiff,Nat.reduceLT,↓reduceIte,reduceCtorEq,cat_l]
   all_goals try (exfalso;omega)
   refine ⟨L.length - (0+1+t),_,_,by omega,.refl _ _,0+1+t,R++ [(⟨xk,xp,xa,xb⟩,t+1)],rfl,by omega,hR2,⟨fun h=>by omega,fun h=>by simp at h⟩,?_,rfl⟩
   rw[hjn,show ((0:Nat):Int)+((1+t:Nat):Int)=((0+1+t:Nat):Int) from by omega]
  ·have hR0:R ≠ []:=fun h=>hj0 (hjR.2 h)
   rw[if_neg hR0] at hjn
   simp (disch:=first|omega|assumption|exact bd (by with_unfolding_all rfl)|exact Or.inl rfl|(simp only[VVlen]<;>omega)|fail) only[O1,WA,Nat.reduceEqDiff,Nat.reduceLT,↓reduceIte,reduceCtorEq,c30l1]
   all_goals try (exfalso;omega)
   refine rwords_inner w n hC s L hL j t (by omega) h2 h3 _ _ ?_
   generalize L[j]! =X at*
   generalize phraseS X ((1+t:Nat):Int)=ph at*
   obtain ⟨xk,xp,xa,xb⟩:=X
   simp (disch:=first|omega|assumption|exact bd (by with_unfolding_all rfl)|exact Or.inl rfl|(simp only[VVlen]<;>omega)|fail) only[O1,WA,Nat.reduceEqDiff,Nat.reduceLT,↓reduceIte,reduceCtorEq,hag,cat_l]
   all_goals try (exfalso;omega)
   refine callV_flat (by rw[hC];exact hph.flat rfl rfl) ?_
   simp (disch:=first|omega|assumption|exact bd (by with_unfolding_all rfl)|exact Or.inl rfl|(simp only[VVlen]<;>omega)|fail) only[O1,WA,Nat.reduceEqDiff,Nat.reduceLT,↓reduceIte,reduceCtorEq,cat_l,List.append_assoc]
   all_goals try (exfalso;omega)
   refine ⟨L.length - (j+1+t),_,_,by omega,.refl _ _,j+1+t,R++ [(⟨xk,xp,xa,xb⟩,t+1)],rfl,by omega,hR2,⟨fun h=>by omega,fun h=>by simp at h⟩,?_,rfl⟩
   rw[hjn,show (j:Int)+((1+t:Nat):Int)=((j+1+t:Nat):Int) from by omega]
 ·have:j=L.length:=by omega
  subst this
  rw[List.drop_length,runsS,List.append_nil] at hR
  rw[hR]
  simp (disch:=first|omega|assumption|exact bd (by with_unfolding_all rfl)|exact Or.inl rfl|(simp only[VVlen]<;>omega)|fail) only[O1,WA,Nat.reduceEqDiff,Nat.reduceLT,↓reduceIte,reduceCtorEq,c30l1]
  all_goals try (exfalso;omega)
  exact weak_flat rfl h0 rfl
theorem rcells_p (s:Nat) (L:List Sti) (hL:L.length≤140737488351232) (hK:KOK L):VSpec (EN w (n+5)) 11 [.sl s L.length (stiD L)] (.tup [strV (cellsF L).1,.sc (.int .i64 (cellsF L).2)]) ⟨[],0,0⟩:=by
 have ha:=rall_p w (n+1) s L hL hK
 unfold cellsF
 by_cases h0:allF L=0
 ·rw[h0] at ha
  rw[if_pos h0]
  have hok:=allF_ok h0
  have hw:=rwords_p w n s L hok.1 hok.2.1
  generalize wordsS L=W at*
  have hsz:=mk_size W
  by_cases h2:2000<W.length
  ·rw[if_pos h2]
   refine vspec_flat rfl rfl (fun _ _=>rfl) (Nat.le_of_ble_eq_true rfl) (oldVals w) rfl fun C hC h0=>?_
   simp (disch:=first|omega|assumption|exact bd (by with_unfolding_all rfl)|exact Or.inl rfl|(simp only[VVlen]<;>omega)|fail) only[O1,WA,Nat.reduceEqDiff,Nat.reduceLT,↓reduceIte,reduceCtorEq,c11]
   refine callV_flat (by rw[hC];exact ha.flat rfl rfl) ?_
   simp (disch:=first|omega|assumption|exact bd (by with_unfolding_all rfl)|exact Or.inl rfl|(simp only[VVlen]<;>omega)|fail) only[O1,WA,Nat.reduceEqDiff,Nat.reduceLT,↓reduceIte,reduceCtorEq]
   refine callV_flat (by rw[hC];exact hw.flat rfl rfl) ?_
   simp (disch:=first|omega|assumption|exact bd (by with_unfolding_all rfl)|exact Or.inl rfl|(simp only[VVlen]<;>omega)|fail) only[O1,WA,Nat.reduceEqDiff,Nat.reduceLT,↓reduceIte,hsz]
   all_goals try (exfalso;omega)
   exact weak_flat rfl h0 rfl
  ·rw[if_neg h2]
   refine vspec_flat rfl rfl (fun _ _=>rfl) (Nat.le_of_ble_eq_true rfl) (oldVals w) rfl fun C hC h0=>?_
   simp (disch:=first|omega|assumption|exact bd (by with_unfolding_all rfl)|exact Or.inl rfl|(simp only[VVlen]<;>omega)|fail) only[O1,WA,Nat.reduceEqDiff,Nat.reduceLT,↓reduceIte,reduceCtorEq,c11]
   refine callV_flat (by rw[hC];exact ha.flat rfl rfl) ?_
   simp (disch:=first|omega|assumption|exact bd (by with_unfolding_all rfl)|exact Or.inl rfl|(simp only[VVlen]<;>omega)|fail) only[O1,WA,Nat.reduceEqDiff,Nat.reduceLT,↓reduceIte,reduceCtorEq]
   refine callV_flat (by rw[hC];exact hw.flat rfl rfl) ?_
   simp (disch:=first|omega|assumption|exact bd (by with_unfolding_all rfl)|exact Or.inl rfl|(simp only[VVlen]<;>omega)|fail) only[O1,WA,Nat.reduceEqDiff,Nat.reduceLT,↓reduceIte,hsz]
   all_goals try (exfalso;omega)
   exact weak_flat rfl h0 rfl
 ·rw[if_neg h0]
  generalize allF L=e at*
  refine vspec_flat rfl rfl (fun _ _=>rfl) (Nat.le_of_ble_eq_true rfl) (oldVals w) rfl fun C hC h0=>?_
  simp (disch:=first|omega|assumption|exact bd (by with_unfolding_all rfl)|exact Or.inl rfl|(simp only[VVlen]<;>omega)|fail) only[O1,WA,Nat.reduceEqDiff,Nat.reduceLT,↓reduceIte,reduceCtorEq,c11]
  refine callV_flat (by rw[hC];exact ha.flat rfl rfl) ?_
  simp (disch:=first|omega|assumption|exact bd (by with_unfolding_all rfl)|exact Or.inl rfl|(simp only[VVlen]<;>omega)|fail) only[O1,WA,Nat.reduceEqDiff,Nat.reduceLT,↓reduceIte,reduceCtorEq]
  all_goals try (exfalso;omega)
  exact weak_flat rfl h0 rfl
end
theorem filterMap_take {f:List UInt8→Option Int} {l:List (List UInt8)} {k:Nat} (hk:k<l.length):(l.take (k+1)).filterMap f=(l.take k).filterMap f++(f l[k]!).toList:=by
 rw[List.take_succ_eq_append_getElem hk,List.filterMap_append,getElem!_pos l k hk]
 cases h:f l[k]<;>simp[h]
abbrev intsV (l:List Int):V:= .sl 3 l.length (l.map iD)
def knD:List D:= [.sc (.int .u8 1),.sc (.int .u8 2),.sc (.int .u8 3),.sc (.int .u8 4),.sc (.int .u8 5),.sc (.int .u8 6),.sc (.int .u8 7),.sc (.int .u8 8),.sc (.int .u8 9),.sc (.int .u8 10)]
theorem kn_row (nx t:Nat):mkRowV nx t 1 10 [.int .u8 0] [(0,1,.sc (.int .u8 1)),(1,1,.sc (.int .u8 2)),(2,1,.sc (.int .u8 3)),(3,1,.sc (.int .u8 4)),(4,1,.sc (.int .u8 5)),(5,1,.sc (.int .u8 6)),(6,1,.sc (.int .u8 7)),(7,1,.sc (.int .u8 8)),(8,1,.sc (.int .u8 9)),(9,1,.sc (.int .u8 10))]=some (.ref nx 0 10 10,some (.row t 1 false false knD),[]):=(rfl)
theorem knD_at (k:Nat) (h:k<10):dload knD k none=some (.sc (.int .u8 ((k+1:Nat):Int))):=by
 rcases (by omega:k=0∨k=1∨k=2∨k=3∨k=4∨k=5∨k=6∨k=7∨k=8∨k=9) with rfl|rfl|rfl|rfl|rfl|rfl|rfl|rfl|rfl|rfl<;>rfl
theorem ints_at (l:List Int) (k:Nat) (h:k<l.length):dload (l.map iD) k none=some (.sc (.int .i64 l[k]!)):=dload_map iD l k h
section
variable (w:World) (n:Nat)
theorem rnumbers_p (s:List UInt8) (hs:s.length≤100000):VSpec (EN w (n+2)) 60 [strV s] (intsV (numsW (words 32 s))) ⟨[],0,0⟩:=by
 have hcut:=cutF_p w n s 32 (by omega)
 have hwl:=Go.Itp.words_len (c:=32) s.length (s:=s) (Nat.le_refl _)
 rw[show (((32:UInt8).toNat:Nat):Int)=32 from rfl] at hcut
 generalize words 32 s=q at*
 refine vspec_g rfl rfl (fun _ _=>rfl) (Nat.le_of_ble_eq_true rfl) (oldVals w) retOK_fin0 rfl fun C hC h0=>?_
 have hrn:C.E.rounds=many:=by rw[hC,callP_rounds]
 simp (disch:=first|omega|assumption|exact bd (by with_unfolding_all rfl)|exact Or.inl rfl|(simp only[VVlen]<;>omega)|fail) only[O1,WA,Nat.reduceEqDiff,Nat.reduceLT,↓reduceIte,reduceCtorEq,c60]
 refine callV_fin (by rw[hC];exact hcut) rfl rfl (fun _=>rfl) ?_
 repeat' (first|(simp (disch:=first|omega|assumption|exact bd (by with_unfolding_all rfl)|exact Or.inl rfl|(simp only[VVlen]<;>omega)|fail) only[O1,WA,slotsL,opdsA,Nat.reduceEqDiff,Nat.reduceLT,Nat.reduceAdd,Nat.reduceBEq,Int.reduceAdd,Int.reduceSub,Int.reduceLT,Int.reduceLE,Int.reduceEq,Int.reduceNeg,↓reduceIte,reduceCtorEq,List.replicate])|apply gC_drawW|((first|apply gI_dec|apply gG_dec|apply gPG_dec|apply gI_var|apply gG_var|apply gPG_var)<;>intro _))
 refine g_while (fun m fr st=>∃ k:Nat,m=q.length - k∧k≤q.length∧fr= [(3,.gr 2 0 (numsW (q.take k)).length),(4,.sl 2 q.length (q.map sD)),(5,.sc (.int .i64 k))]∧st=⟨[(0,.gro 3 1 false ((numsW (q.take k)).map iD))],1,0⟩) q.length ?_ ⟨_,_,weak_nilSlot 3 3 1 rfl,0,by omega,Nat.zero_le _,rfl,rfl⟩ ?_
 ·rw[hrn];unfold many;omega
 rintro m fr st ⟨k,rfl,hk,rfl,rfl⟩
 have hnl:(numsW (q.take k)).length≤k:=by
  unfold numsW
  exact Nat.le_trans (List.length_filterMap_le _ _) (by rw[List.length_take];omega)
 by_cases hlt:k<q.length
 ·have hpl:=hwl.2 q[k]! (by rw[getElem!_pos q k hlt];exact List.getElem_mem hlt)
  have hnm:=num25_p w n q[k]! (by omega)
  have hft:numsW (q.take (k+1))=numsW (q.take k)++(num4 q[k]!).toList:=filterMap_take hlt
  generalize hp:q[k]! =p at*
  generalize numsW (q.take k)=N at*
  cases hr:num4 p with
  |none=>
   rw[hr] at hnm hft
   unfold num4V at hnm
   simp only[Option.toList_none,List.append_nil] at hft
   simp (disch:=first|omega|assumption|exact bd (by with_unfolding_all rfl)|exact Or.inl rfl|(simp only[VVlen]<;>omega)|fail) only[O1,WA,Nat.reduceEqDiff,Nat.reduceLT,↓reduceIte,c60l0,hp]
   all_goals try (exfalso;omega)
   refine callV_flat (by rw[hC];exact hnm.flat rfl rfl) ?_
   simp (disch:=first|omega|assumption|exact bd (by with_unfolding_all rfl)|exact Or.inl rfl|(simp only[VVlen]<;>omega)|fail) only[O1,WA,Nat.reduceEqDiff,Nat.reduceLT,↓reduceIte,Option.isSome_none]
   exact ⟨q.length - (k+1),_,_,by omega,.refl _ _,k+1,rfl,by omega,by rw[hft];rfl,by rw[hft]⟩
  |some z=>
   rw[hr] at hnm hft
   unfold num4V at hnm
   simp only[Option.toList_some] at hft
   simp (disch:=first|omega|assumption|exact bd (by with_unfolding_all rfl)|exact Or.inl rfl|(simp only[VVlen]<;>omega)|fail) only[O1,WA,Nat.reduceEqDiff,Nat.reduceLT,↓reduceIte,c60l0,hp]
   all_goals try (exfalso;omega)
   refine callV_flat (by rw[hC];exact hnm.flat rfl rfl) ?_
   simp (disch:=first|omega|assumption|exact bd (by with_unfolding_all rfl)|exact Or.inl rfl|(simp only[VVlen]<;>omega)|fail) only[O1,WA,Nat.reduceEqDiff,Nat.reduceLT,Nat.reduceAdd,↓reduceIte,reduceCtorEq,Option.isSome_some,Option.getD_some,row1V_int]
   all_goals try (exfalso;omega)
   refine ⟨q.length - (k+1),_,_,by omega,weak_to [(2,0)] 1 h0 rfl rfl rfl rfl,k+1,rfl,by omega,?_,?_⟩
   ·rw[hft,List.length_append];rfl
   ·rw[hft,List.map_append];rfl
 ·have:k=q.length:=by omega
  subst this
  rw[List.take_length]
  simp (disch:=first|omega|assumption|exact bd (by with_unfolding_all rfl)|exact Or.inl rfl|(simp only[VVlen]<;>omega)|fail) only[O1,WA,Nat.reduceEqDiff,Nat.reduceLT,↓reduceIte,c60l0]
  all_goals try (exfalso;omega)
  exact weak_fin0 (s:=2) (snap_gr1 rfl (by simp)) rfl (.inl (by decide)) h0 rfl
theorem rkinds_p:VSpec (EN w (n+1)) 61 [] (.sl 3 10 knD) ⟨[],0,0⟩:=by
 refine vspec_g rfl rfl (fun _ _=>rfl) (Nat.le_of_ble_eq_true rfl) (oldVals w) retOK_fin0 rfl fun C hC h0=>?_
 simp (disch:=first|omega|assumption|exact bd (by with_unfolding_all rfl)|exact Or.inl rfl|(simp only[VVlen]<;>omega)|fail) only[O1,WA,Nat.reduceLT,↓reduceIte,reduceCtorEq,c61,kn_row]
 exact weak_fin0 (s:=0) (n:=10) (l:=knD) rfl rfl (.inl (by decide)) h0 rfl
theorem rtried_p (k:Nat) (h1:1≤k) (h2:k≤10) (p:Bool) (l:List Int) (hl:l.length≤100000):VSpec (EN w (n+1)) 62 [.sc (.int .u8 k),.sc (.bool p),intsV l] (.tup [stiV (triedR k p l).1,.sc (.int .i64 (triedR k p l).2)]) ⟨[],0,0⟩:=by
 have i0:∀ h:0<l.length,dload (l.map iD) 0 none=some (.sc (.int .i64 l[0]!)):=ints_at l 0
 have i1:∀ h:1<l.length,dload (l.map iD) 1 none=some (.sc (.int .i64 l[1]!)):=ints_at l 1
 have i2:∀ h:2<l.length,dload (l.map iD) 2 none=some (.sc (.int .i64 l[2]!)):=ints_at l 2
 unfold triedR intsV
 have hml:(l.map iD).length=l.length:=List.length_map ..
 generalize l.map iD=LD at*
 generalize l[0]! =a0 at*
 generalize l[1]! =a1 at*
 generalize l[2]! =a2 at*
 generalize l.length=ln at*
 rcases (by omega:ln=0∨ln=1∨ln=2∨2<ln) with rfl|rfl|rfl|h3
 all_goals
  rcases (by omega:k=1∨k=2∨k=3∨k=4∨k=5∨k=6∨k=7∨k=8∨k=9∨k=10) with rfl|rfl|rfl|rfl|rfl|rfl|rfl|rfl|rfl|rfl
 all_goals
  try (have f0:(0<ln)=True:=eq_true (by omega);have f1:(1<ln)=True:=eq_true (by omega);have f2:(2<ln)=True:=eq_true (by omega);have f3:(ln=0)=False:=eq_false (by omega);have f4:(ln<2)=False:=eq_false (by omega);simp only[f0,f1,f2,f3,f4])
  simp (config:={decide:=true}) only[if_true,if_false,true_or,or_true,false_or]
  refine vspec_flat rfl rfl (fun _ _=>rfl) (Nat.le_of_ble_eq_true rfl) (oldVals w) rfl fun C hC h0=>?_
  repeat' (first|(simp (disch:=first|omega|assumption|exact bd (by with_unfolding_all rfl)|exact Or.inl rfl|(simp only[VVlen]<;>omega)|fail) only[O1,WA,slotsL,opdsA,Nat.reduceEqDiff,Nat.reduceLT,Nat.reduceAdd,↓reduceIte,reduceCtorEq,List.replicate,c62,tn0,tn1,tn2,i0,i1,i2,vd_store4,dStoreA_eq,dStAO_4])|apply gC_drawW|((first|apply gI_dec|apply gG_dec|apply gPG_dec|apply gI_var|apply gG_var|apply gPG_var)<;>intro _))
 all_goals try (exfalso;omega)
 all_goals exact weak_flat rfl h0 rfl
end
def oneV:Option (Sti × Int)→V
 |none=> .tup [stiV sti0,.sc (.int .i64 0)]
 |some (x,m)=> .tup [stiV x,.sc (.int .i64 m)]
def preX (x:List UInt8):List (List UInt8)→List (List UInt8)
 | []=> [x]
 |w::ws=>(x++w)::ws
theorem preX_nil {W:List (List UInt8)} (h:W ≠ []):preX [] W=W:=by cases W with
 |nil=>exact absurd rfl h
 |cons a b=>rfl
theorem preX_cons (x:List UInt8) (c:UInt8) {W:List (List UInt8)} (h:W ≠ []):preX x (consH c W)=preX (x++ [c]) W:=by cases W with
 |nil=>exact absurd rfl h
 |cons a b=>simp[preX,consH]
section
variable (w:World) (n:Nat)
theorem rone_p (s:List UInt8) (hs:s.length≤90000):VSpec (EN w (n+4)) 34 [strV s] (oneV (readS s)) ⟨[],0,0⟩:=by
 have hnm:=rnumbers_p w (n+1) s (by omega)
 have hkn:=rkinds_p w (n+2)
 have hnl:(numsW (words 32 s)).length≤100000:=by
  have:=(Go.Itp.words_len (c:=32) s.length (s:=s) (Nat.le_refl _)).1
  unfold numsW
  exact Nat.le_trans (List.length_filterMap_le _ _) (by omega)
 have hcand:∀ k p,candR k p s=candC (triedR k p (numsW (words 32 s))).1 ((triedR k p (numsW (words 32 s))).2,[]) s:=fun k p=>rfl
 refine vspec_flat rfl rfl (fun _ _=>rfl) (Nat.le_of_ble_eq_true rfl) (oldVals w) (by rcases readS s with _|⟨x,m⟩<;>rfl) fun C hC h0=>?_
 have hrn:C.E.rounds=many:=by rw[hC,callP_rounds]
 generalize numsW (words 32 s)=N at*
 simp (disch:=first|omega|assumption|exact bd (by with_unfolding_all rfl)|exact Or.inl rfl|(simp only[VVlen]<;>omega)|fail) only[O1,WA,Nat.reduceEqDiff,Nat.reduceLT,↓reduceIte,reduceCtorEq,List.replicate,c34]
 refine callV_fin (by rw[hC];exact hnm) rfl rfl (fun _=>rfl) ?_
 repeat' (first|(simp (disch:=first|omega|assumption|exact bd (by with_unfolding_all rfl)|exact Or.inl rfl|(simp only[VVlen]<;>omega)|fail) only[O1,WA,slotsL,opdsA,Nat.reduceEqDiff,Nat.reduceLT,Nat.reduceAdd,Nat.reduceBEq,Int.reduceAdd,Int.reduceSub,Int.reduceLT,Int.reduceLE,Int.reduceEq,Int.reduceNeg,↓reduceIte,reduceCtorEq,List.replicate])|apply gC_drawW|((first|apply gI_dec|apply gG_dec|apply gPG_dec|apply gI_var|apply gG_var|apply gPG_var)<;>intro _))
 refine callV_fin (by rw[hC];exact hkn) rfl rfl (fun _=>rfl) ?_
 repeat' (first|(simp (disch:=first|omega|assumption|exact bd (by with_unfolding_all rfl)|exact Or.inl rfl|(simp only[VVlen]<;>omega)|fail) only[O1,WA,slotsL,opdsA,Nat.reduceEqDiff,Nat.reduceLT,Nat.reduceAdd,Nat.reduceBEq,Int.reduceAdd,Int.reduceSub,Int.reduceLT,Int.reduceLE,Int.reduceEq,Int.reduceNeg,↓reduceIte,reduceCtorEq,List.replicate])|apply gC_drawW|((first|apply gI_dec|apply gG_dec|apply gPG_dec|apply gI_var|apply gG_var|apply gPG_var)<;>intro _))
 refine g_while (fun m fr st=>∃ i:Nat,m=20 - i∧i≤20∧(∀ i',i'<i→candR (i' / 2+1) (decide (i' % 2=1)) s=none)∧fr= [(0,strV s),(2,.ptr 0 0),(4,intsV N),(5,.sl 3 10 knD),(6,.sc (.int .i64 i))]∧st=⟨[(0,stiB sti0)],1,0⟩) 20 ?_ ⟨_,_,.refl _ _,0,by omega,Nat.zero_le _,fun i' h=>absurd h (Nat.not_lt_zero _),rfl,rfl⟩ ?_
 ·rw[hrn];unfold many;omega
 rintro m fr st ⟨i,rfl,hi,hno,rfl,rfl⟩
 by_cases hlt:i<20
 ·have e1:(i:Int) / 2=((i / 2:Nat):Int):=by omega
  have e2:decide ((i:Int) % 2=1)=decide (i % 2=1):=decide_eq_decide.2 (by omega)
  have hld:=knD_at (i / 2) (by omega)
  have hck:=hcand (i / 2+1) (decide (i % 2=1))
  have htr:=rtried_p w (n+2) (i / 2+1) (by omega) (by omega) (decide (i % 2=1)) N (by omega)
  have hkd:(triedR (i / 2+1) (decide (i % 2=1)) N).1.kind=i / 2+1:=by
   unfold triedR
   split
   ·rfl
   split
   ·rfl
   split
   ·rfl
   split
   ·rfl
   split
   ·split<;>rfl
   ·rfl
  generalize hX:triedR (i / 2+1) (decide (i % 2=1)) N=XM at*
  obtain ⟨x,m⟩:=XM
  simp only at hck htr hkd
  have hchk:=rcheck_p w (n+2) x (by omega)
  have hph:=fun h1 h2 h3=>rphrase_p w n x h1 m h2 h3
  have hn:¬ ((1≤m∧m≤200)∧StiP x∧phraseS x m=s)→candC x (m,[]) s=none:=fun h=>by unfold candC;rw[if_neg fun hh=>h hh.2]
  have hy:((1≤m∧m≤200)∧StiP x∧phraseS x m=s)→candC x (m,[]) s=some (x,m):=fun h=>by unfold candC;rw[if_pos ⟨rfl,h⟩]
  have hnx:candR (i / 2+1) (decide (i % 2=1)) s=none→∀ i',i'<i+1→candR (i' / 2+1) (decide (i' % 2=1)) s=none:=fun hh=>lt_succ_cases hno hh
  by_cases h2:1≤m
  case neg=>
   have hnx:=hnx (by rw[hck];exact hn fun h=>h2 h.1.1)
   obtain ⟨xk,xp,xa,xb⟩:=x
   simp (disch:=first|omega|assumption|exact bd (by with_unfolding_all rfl)|exact Or.inl rfl|(simp only[VVlen]<;>omega)|fail) only[O1,WA,Nat.reduceEqDiff,Nat.reduceLT,↓reduceIte,reduceCtorEq,c34l0,e1,hld,e2]
   all_goals try (exfalso;omega)
   refine callV_flat (by rw[hC];exact htr.flat rfl rfl) ?_
   simp (disch:=first|omega|assumption|exact bd (by with_unfolding_all rfl)|exact Or.inl rfl|(simp only[VVlen]<;>omega)|fail) only[O1,WA,Nat.reduceEqDiff,Nat.reduceLT,Nat.reduceAdd,↓reduceIte,reduceCtorEq,List.replicate]
   all_goals try (exfalso;omega)
   exact ⟨20 - (i+1),_,_,by omega,weak_to [(0,0)] 1 h0 rfl rfl rfl rfl,i+1,rfl,by omega,hnx,rfl,rfl⟩
  by_cases h3:m≤200
  case neg=>
   have hnx:=hnx (by rw[hck];exact hn fun h=>h3 h.1.2)
   obtain ⟨xk,xp,xa,xb⟩:=x
   simp (disch:=first|omega|assumption|exact bd (by with_unfolding_all rfl)|exact Or.inl rfl|(simp only[VVlen]<;>omega)|fail) only[O1,WA,Nat.reduceEqDiff,Nat.reduceLT,↓reduceIte,reduceCtorEq,c34l0,e1,hld,e2]
   all_goals try (exfalso;omega)
   refine callV_flat (by rw[hC];exact htr.flat rfl rfl) ?_
   simp (disch:=first|omega|assumption|exact bd (by with_unfolding_all rfl)|exact Or.inl rfl|(simp only[VVlen]<;>omega)|fail) only[O1,WA,Nat.reduceEqDiff,Nat.reduceLT,Nat.reduceAdd,↓reduceIte,reduceCtorEq,List.replicate]
   all_goals try (exfalso;omega)
   exact ⟨20 - (i+1),_,_,by omega,weak_to [(0,0)] 1 h0 rfl rfl rfl rfl,i+1,rfl,by omega,hnx,rfl,rfl⟩
  cases h4:stiOK x with
  |false=>
   have hnx:=hnx (by rw[hck];exact hn fun h=>by rw[stiOK_iff.2 h.2.1] at h4;cases h4)
   rw[h4,if_neg (by decide)] at hchk
   obtain ⟨xk,xp,xa,xb⟩:=x
   simp (disch:=first|omega|assumption|exact bd (by with_unfolding_all rfl)|exact Or.inl rfl|(simp only[VVlen]<;>omega)|fail) only[O1,WA,Nat.reduceEqDiff,Nat.reduceLT,↓reduceIte,reduceCtorEq,c34l0,e1,hld,e2]
   all_goals try (exfalso;omega)
   refine callV_flat (by rw[hC];exact htr.flat rfl rfl) ?_
   simp (disch:=first|omega|assumption|exact bd (by with_unfolding_all rfl)|exact Or.inl rfl|(simp only[VVlen]<;>omega)|fail) only[O1,WA,Nat.reduceEqDiff,Nat.reduceLT,Nat.reduceAdd,↓reduceIte,reduceCtorEq,List.replicate]
   all_goals try (exfalso;omega)
   refine callV_flat (by rw[hC];exact hchk.flat rfl rfl) ?_
   simp (disch:=first|omega|assumption|exact bd (by with_unfolding_all rfl)|exact Or.inl rfl|(simp only[VVlen]<;>omega)|fail) only[O1,WA,Nat.reduceEqDiff,Nat.reduceLT,Int.reduceEq,↓reduceIte,reduceCtorEq]
   exact ⟨20 - (i+1),_,_,by omega,weak_to [(0,0)] 1 h0 rfl rfl rfl rfl,i+1,rfl,by omega,hnx,rfl,rfl⟩
  |true=>
   have hP:=stiOK_iff.1 h4
   rw[h4,if_pos rfl] at hchk
   have hph:=hph hP h2 (by omega)
   by_cases h5:phraseS x m=s
   ·have hr:readS s=some (x,m):=candR_some (hck.trans (hy ⟨⟨h2,h3⟩,hP,h5⟩))
    rw[hr]
    rw[h5] at hph
    clear hn hy hnx hck hcand hX hr
    obtain ⟨xk,xp,xa,xb⟩:=x
    simp (disch:=first|omega|assumption|exact bd (by with_unfolding_all rfl)|exact Or.inl rfl|(simp only[VVlen]<;>omega)|fail) only[O1,WA,Nat.reduceEqDiff,Nat.reduceLT,↓reduceIte,reduceCtorEq,c34l0,e1,hld,e2]
    all_goals try (exfalso;omega)
    refine callV_flat (by rw[hC];exact htr.flat rfl rfl) ?_
    simp (disch:=first|omega|assumption|exact bd (by with_unfolding_all rfl)|exact Or.inl rfl|(simp only[VVlen]<;>omega)|fail) only[O1,WA,Nat.reduceEqDiff,Nat.reduceLT,Nat.reduceAdd,↓reduceIte,reduceCtorEq,List.replicate]
    all_goals try (exfalso;omega)
    refine callV_flat (by rw[hC];exact hchk.flat rfl rfl) ?_
    simp (disch:=first|omega|assumption|exact bd (by with_unfolding_all rfl)|exact Or.inl rfl|(simp only[VVlen]<;>omega)|fail) only[O1,WA,Nat.reduceEqDiff,Nat.reduceLT,↓reduceIte,reduceCtorEq]
    refine callV_flat (by rw[hC];exact hph.flat rfl rfl) ?_
    simp (disch:=first|omega|assumption|exact bd (by with_unfolding_all rfl)|exact Or.inl rfl|(simp only[VVlen]<;>omega)|fail) only[O1,WA,Nat.reduceEqDiff,Nat.reduceLT,↓reduceIte,reduceCtorEq]
    exact weak_flat rfl h0 rfl
   ·have hnx:=hnx (by rw[hck];exact hn fun h=>h5 h.2.2)
    have h5':=phraseS_ne.2 h5
    generalize phraseS x m=ph at*
    obtain ⟨xk,xp,xa,xb⟩:=x
    simp (disch:=first|omega|assumption|exact bd (by with_unfolding_all rfl)|exact Or.inl rfl|(simp only[VVlen]<;>omega)|fail) only[O1,WA,Nat.reduceEqDiff,Nat.reduceLT,↓reduceIte,reduceCtorEq,c34l0,e1,hld,e2]
    all_goals try (exfalso;omega)
    refine callV_flat (by rw[hC];exact htr.flat rfl rfl) ?_
    simp (disch:=first|omega|assumption|exact bd (by with_unfolding_all rfl)|exact Or.inl rfl|(simp only[VVlen]<;>omega)|fail) only[O1,WA,Nat.reduceEqDiff,Nat.reduceLT,Nat.reduceAdd,↓reduceIte,reduceCtorEq,List.replicate]
    all_goals try (exfalso;omega)
    refine callV_flat (by rw[hC];exact hchk.flat rfl rfl) ?_
    simp (disch:=first|omega|assumption|exact bd (by with_unfolding_all rfl)|exact Or.inl rfl|(simp only[VVlen]<;>omega)|fail) only[O1,WA,Nat.reduceEqDiff,Nat.reduceLT,↓reduceIte,reduceCtorEq]
    refine callV_flat (by rw[hC];exact hph.flat rfl rfl) ?_
    simp (disch:=first|omega|assumption|exact bd (by with_unfolding_all rfl)|exact Or.inl rfl|(simp only[VVlen]<;>omega)|fail) only[O1,WA,Nat.reduceEqDiff,Nat.reduceLT,↓reduceIte,reduceCtorEq,h5']
    exact ⟨20 - (i+1),_,_,by omega,weak_to [(0,0)] 1 h0 rfl rfl rfl rfl,i+1,rfl,by omega,hnx,rfl,rfl⟩
 ·have:i=20:=by omega
  subst this
  have hr:readS s=none:=readS_all (cand:=candR) (fun hx a b=>candR_of hx a b) fun k p h1 h2=>by
   have:=hno (2*(k - 1)+if p=true then 1 else 0) (by split<;>omega)
   have e1:(2*(k - 1)+if p=true then 1 else 0) / 2+1=k:=by split<;>omega
   have e2:decide ((2*(k - 1)+if p=true then 1 else 0) % 2=1)=p:=by
    cases p
    ·exact decide_eq_false (by rw[if_neg (by decide)];omega)
    ·exact decide_eq_true (by rw[if_pos rfl];omega)
   rwa [e1,e2] at this
  rw[hr]
  simp (disch:=first|omega|assumption|exact bd (by with_unfolding_all rfl)|exact Or.inl rfl|(simp only[VVlen]<;>omega)|fail) only[O1,WA,Nat.reduceEqDiff,Nat.reduceLT,↓reduceIte,reduceCtorEq,c34l0]
  all_goals try (exfalso;omega)
  exact weak_flat rfl h0 rfl
theorem rcommas_p (s:List UInt8) (hs:s.length≤100000):VSpec (EN w (n+1)) 33 [strV s] (.sl 3 (splitC s).length ((splitC s).map sD)) ⟨[],0,0⟩:=by
 refine vspec_g rfl rfl (fun _ _=>rfl) (Nat.le_of_ble_eq_true rfl) (oldVals w) retOK_fin0 rfl fun C hC h0=>?_
 have hrn:C.E.rounds=many:=by rw[hC,callP_rounds]
 have hsz:=mk_size s
 have hsl:=splitC_len s
 simp (disch:=first|omega|assumption|exact bd (by with_unfolding_all rfl)|exact Or.inl rfl|(simp only[VVlen]<;>omega)|fail) only[O1,WA,Nat.reduceEqDiff,Nat.reduceLT,↓reduceIte,reduceCtorEq,c33]
 refine g_while (fun m fr st=>∃ (dn:List (List UInt8)) (p x r:List UInt8) (i:Nat),m=s.length - i∧s=p++(x++r)∧splitC s=dn++preX x (splitC r)∧(i=p.length+x.length∨(x= []∧i+1=p.length∧s[i]! =32))∧fr= [(0,strV s),(3,.gr 2 0 dn.length),(4,.sc (.int .i64 p.length)),(5,.sc (.int .i64 i))]∧st=⟨[(0,.gro 9 1 false (dn.map sD))],1,0⟩) s.length ?_ ⟨_,_,weak_nilSlot 3 9 1 rfl,[],[],[],s,0,by omega,rfl,by rw[preX_nil (splitC_ne s)];rfl,.inl rfl,rfl,rfl⟩ ?_
 ·rw[hrn];unfold many;omega
 rintro m fr st ⟨dn,p,x,r,i,rfl,hsp,hsc,hi,rfl,rfl⟩
 have hll:s.length=p.length+(x.length+r.length):=by rw[hsp];simp
 have hdl:dn.length≤s.length:=by
  have h1:=congrArg List.length hsc
  have h2:1≤(preX x (splitC r)).length:=by cases splitC r<;>simp[preX]
  rw[List.length_append] at h1
  omega
 have hdm:(dn.map sD).length=dn.length:=by rw[List.length_map]
 have hdrop:s.drop p.length=x++r:=by rw[hsp,List.drop_left]
 have e1:=slcS_lo s .i64 p.length (by omega) (by omega)
 rw[Int.toNat_natCast,hdrop] at e1
 have hlast:(r= []∨∃ c,r= [c])→splitC s=dn++ [x++r]:=by
  rintro (rfl|⟨c,rfl⟩)
  ·rw[hsc];simp[splitC,preX]
  ·rw[hsc];simp[splitC,preX]
 have hend:(r= []∨∃ c,r= [c])→snapV ([(2,.gro 9 1 false (dn.map sD++ [sD (x++r)])),(1,.row 9 1 false false [sD (x++r)])]:VHp) (.gr 2 2 (dn.length+1))=some (.sl 2 (splitC s).length ((splitC s).map sD)):=fun h=>by
  rw[hlast h]
  have:=snap_gr1 (H:= [(2,.gro 9 1 false (dn.map sD++ [sD (x++r)])),(1,.row 9 1 false false [sD (x++r)])]) (o:=2) (t:=9) (n:=dn.length+1) (z:=false) (l:=dn.map sD++ [sD (x++r)]) rfl (by simp)
  rw[this]
  simp
 rcases hi with rfl|⟨rfl,hi,h32⟩
 ·by_cases hr:r= []∨∃ c,r= [c]
  ·have hr1:r.length≤1:=by rcases hr with rfl|⟨c,rfl⟩<;>simp
   have hend:=hend hr
   generalize x++r=q at*
   simp (disch:=first|omega|assumption|exact bd (by with_unfolding_all rfl)|exact Or.inl rfl|(simp only[VVlen]<;>omega)|fail) only[O1,WA,Nat.reduceEqDiff,Nat.reduceLT,Nat.reduceAdd,↓reduceIte,reduceCtorEq,c33l0,hsz,e1,row1V_str]
   all_goals try (exfalso;omega)
   exact weak_fin0 hend rfl (.inl (by decide)) h0 rfl
  ·obtain ⟨c,d,r',rfl⟩:∃ c d r',r=c::d::r':=by
    rcases r with _|⟨c,_|⟨d,r'⟩⟩
    ·exact absurd (.inl rfl) hr
    ·exact absurd (.inr ⟨c,rfl⟩) hr
    ·exact ⟨c,d,r',rfl⟩
   have hg1:s[p.length+x.length]! =c:=by
    rw[hsp,← List.append_assoc,getElem!_pos _ _ (by simp),List.getElem_append_right (by simp)]
    simp
   have hg2:s[p.length+x.length+1]! =d:=by
    rw[hsp,← List.append_assoc,getElem!_pos _ _ (by simp;omega),List.getElem_append_right (by simp)]
    simp
   have hl2:(c::d::r').length=r'.length+2:=rfl
   have hb:=idxStr_l s .i64 ((p.length+x.length:Nat):Int) (by omega) (by omega)
   have hb2:=idxStr_l s .i64 (((p.length+x.length:Nat):Int)+1) (by omega) (by omega)
   rw[Int.toNat_natCast,hg1] at hb
   rw[show (((p.length+x.length:Nat):Int)+1).toNat=p.length+x.length+1 from by omega,hg2] at hb2
   have e2:=slcS_both s .i64 .i64 (p.length:Int) ((p.length+x.length:Nat):Int) (by omega) (by omega) (by omega)
   simp only[Int.toNat_natCast] at e2
   rw[show List.take (p.length+x.length - p.length) (List.drop p.length s)=x from by rw[hdrop,Nat.add_sub_cancel_left,List.take_left]] at e2
   by_cases h44:c=44
   ·subst h44
    rw[show (((44:UInt8).toNat:Nat):Int)=44 from rfl] at hb
    by_cases hd32:d=32
    ·subst hd32
     rw[show (((32:UInt8).toNat:Nat):Int)=32 from rfl] at hb2
     have hpl:(((p++(x++([44,32]:List UInt8))).length:Nat):Int)=((p.length+x.length:Nat):Int)+2:=by
      simp only[List.length_append,List.length_cons,List.length_nil]
      omega
     simp (disch:=first|omega|assumption|exact bd (by with_unfolding_all rfl)|exact Or.inl rfl|(simp only[VVlen]<;>omega)|fail) only[O1,WA,Nat.reduceEqDiff,Nat.reduceLT,Nat.reduceAdd,↓reduceIte,reduceCtorEq,c33l0,hsz,hb,hb2,e2,row1V_str]
     all_goals try (exfalso;omega)
     refine ⟨s.length - (p.length+x.length+1),_,_,by omega,weak_to [(2,0)] 1 h0 rfl rfl rfl rfl,dn++ [x],p++(x++ [44,32]),[],r',p.length+x.length+1,rfl,by rw[hsp];simp,?_,.inr ⟨rfl,by simp;omega,hg2⟩,?_,by rw[List.map_append];rfl⟩
     ·rw[hsc,splitC,if_pos ⟨rfl,rfl⟩,preX_nil (splitC_ne r')]
      simp[preX]
     ·rw[hpl,List.length_append]
      rfl
    ·have hd:¬ ((d.toNat:Nat):Int)=32:=fun h=>hd32 (UInt8.toNat_inj.1 (show d.toNat=32 by omega))
     simp (disch:=first|omega|assumption|exact bd (by with_unfolding_all rfl)|exact Or.inl rfl|(simp only[VVlen]<;>omega)|fail) only[O1,WA,Nat.reduceEqDiff,Nat.reduceLT,↓reduceIte,reduceCtorEq,c33l0,hsz,hb,hb2,hd]
     all_goals try (exfalso;omega)
     refine ⟨s.length - (p.length+x.length+1),_,_,by omega,.refl _ _,dn,p,x++ [44],d::r',p.length+x.length+1,rfl,by rw[hsp];simp,?_,.inl (by simp;omega),rfl,rfl⟩
     rw[hsc,splitC_step (fun h=>hd32 h.2),preX_cons _ _ (splitC_ne _)]
   ·have hd:¬ ((c.toNat:Nat):Int)=44:=fun h=>h44 (UInt8.toNat_inj.1 (show c.toNat=44 by omega))
    simp (disch:=first|omega|assumption|exact bd (by with_unfolding_all rfl)|exact Or.inl rfl|(simp only[VVlen]<;>omega)|fail) only[O1,WA,Nat.reduceEqDiff,Nat.reduceLT,↓reduceIte,reduceCtorEq,c33l0,hsz,hb,hd]
    all_goals try (exfalso;omega)
    refine ⟨s.length - (p.length+x.length+1),_,_,by omega,.refl _ _,dn,p,x++ [c],d::r',p.length+x.length+1,rfl,by rw[hsp];simp,?_,.inl (by simp;omega),rfl,rfl⟩
    rw[hsc,splitC_step (fun h=>h44 h.1),preX_cons _ _ (splitC_ne _)]
 ·have hb:=idxStr_l s .i64 i (by omega) (by omega)
  rw[Int.toNat_natCast,h32,show (((32:UInt8).toNat:Nat):Int)=32 from rfl] at hb
  by_cases hr:r= []
  ·have hend:=hend (.inl hr)
   have hr1:r.length=0:=by rw[hr];rfl
   have hx0:([]:List UInt8).length=0:=rfl
   generalize []++r=q at*
   simp (disch:=first|omega|assumption|exact bd (by with_unfolding_all rfl)|exact Or.inl rfl|(simp only[VVlen]<;>omega)|fail) only[O1,WA,Nat.reduceEqDiff,Nat.reduceLT,Nat.reduceAdd,↓reduceIte,reduceCtorEq,c33l0,hsz,e1,row1V_str]
   all_goals try (exfalso;omega)
   exact weak_fin0 hend rfl (.inl (by decide)) h0 rfl
  ·have hr1:1≤r.length:=List.length_pos_iff.2 hr
   have hx0:([]:List UInt8).length=0:=rfl
   simp (disch:=first|omega|assumption|exact bd (by with_unfolding_all rfl)|exact Or.inl rfl|(simp only[VVlen]<;>omega)|fail) only[O1,WA,Nat.reduceEqDiff,Nat.reduceLT,Int.reduceEq,↓reduceIte,reduceCtorEq,c33l0,hsz,hb]
   all_goals try (exfalso;omega)
   exact ⟨s.length - (i+1),_,_,by omega,.refl _ _,dn,p,[],r,i+1,rfl,hsp,hsc,.inl (by rw[hx0];omega),rfl,rfl⟩
end
section
variable (w:World) (n:Nat)
theorem rpc_inner {C:Ctx} (hC:C.E=EN w (n+5)) (h0:C.w0.nx=0) (s:List UInt8) (q:List (List UInt8)) (k:Int) (acc:List Sti) (x:Sti) (m:Nat) (hm:acc.length+m≤200) {K:List KF} {P:VPost}
  (hgo:gK C K (.exit 2) [(0,strV s),(4,.gr 2 0 (acc++List.replicate m x).length),(5,.sl 3 q.length (q.map sD)),(6,.sc (.int .i64 k)),(7,.ptr 1 0),(8,.sc (.int .i64 m)),(9,.sc (.int .i64 m)),(42,.sc (.bool false))] ⟨[(0,.gro 48 4 false (stiD (acc++List.replicate m x))),(1,stiB x)],2,0⟩ P):
  gL C [0,4,5,6,7,8,9] c13l0 K [(0,strV s),(4,.gr 2 0 acc.length),(5,.sl 3 q.length (q.map sD)),(6,.sc (.int .i64 k)),(7,.ptr 1 0),(8,.sc (.int .i64 m)),(9,.sc (.int .i64 0))] ⟨[(1,stiB x),(0,.gro 48 4 false (stiD acc))],2,0⟩ P:=by
 have hrn:C.E.rounds=many:=by rw[hC,callP_rounds]
 refine g_while (fun mm fr st=>∃ i:Nat,mm=m - i∧i≤m∧fr= [(0,strV s),(4,.gr 2 0 (acc++List.replicate i x).length),(5,.sl 3 q.length (q.map sD)),(6,.sc (.int .i64 k)),(7,.ptr 1 0),(8,.sc (.int .i64 m)),(9,.sc (.int .i64 i))]∧st=⟨[(0,.gro 48 4 false (stiD (acc++List.replicate i x))),(1,stiB x)],2,0⟩) m ?_ ⟨_,_,weak_drop (aget_swap _ _),0,by omega,Nat.zero_le _,by simp,by simp⟩ ?_
 ·rw[hrn];unfold many;omega
 rintro mm fr st ⟨i,rfl,hi,rfl,rfl⟩
 by_cases hlt:i<m
 ·have hsn:=stiD_snoc (acc++List.replicate i x) x
  have hl:(acc++List.replicate i x).length=acc.length+i:=by simp
  have hd:=stiD_len (acc++List.replicate i x)
  have hrs:acc++List.replicate (i+1) x=acc++List.replicate i x++ [x]:=by rw[List.replicate_succ'];simp
  rw[hl] at hd ⊢
  generalize acc++List.replicate i x=A at*
  generalize stiD A=AD at*
  obtain ⟨xk,xp,xa,xb⟩:=x
  simp (disch:=first|omega|assumption|exact bd (by with_unfolding_all rfl)|exact Or.inl rfl|(simp only[VVlen]<;>omega)|fail) only[O1,WA,Nat.reduceEqDiff,Nat.reduceLT,Nat.reduceAdd,↓reduceIte,reduceCtorEq,c13l0,row1V_sti]
  all_goals try (exfalso;omega)
  refine ⟨m - (i+1),_,_,by omega,weak_to [(3,0),(1,1)] 2 h0 rfl rfl rfl rfl,i+1,rfl,by omega,?_,?_⟩
  ·rw[hrs,List.length_append,hl];rfl
  ·rw[hrs,hsn];rfl
 ·have:i=m:=by omega
  subst this
  generalize stiD (acc++List.replicate i x)=AD at*
  generalize (acc++List.replicate i x).length=al at*
  simp (disch:=first|omega|assumption|exact bd (by with_unfolding_all rfl)|exact Or.inl rfl|(simp only[VVlen]<;>omega)|fail) only[O1,WA,Nat.reduceEqDiff,Nat.reduceLT,↓reduceIte,reduceCtorEq,c13l0]
  exact hgo
theorem rpcells_p (s:List UInt8) (hs:s.length≤100000):VSpec (EN w (n+6)) 13 [strV s] (cellsV (parseC s)) ⟨[],0,0⟩:=by
 have hsz:=mk_size s
 rw[parseC_cases]
 by_cases h1:2000<s.length
 ·rw[if_pos h1]
  refine vspec_g rfl rfl (fun _ _=>rfl) (Nat.le_of_ble_eq_true rfl) (oldVals w) retOK_fin rfl fun C hC h0=>?_
  simp (disch:=first|omega|assumption|exact bd (by with_unfolding_all rfl)|exact Or.inl rfl|(simp only[VVlen]<;>omega)|fail) only[O1,WA,Nat.reduceEqDiff,Nat.reduceLT,↓reduceIte,reduceCtorEq,c13,hsz]
  all_goals try (exfalso;omega)
  exact weak_finNil h0 rfl
 rw[if_neg h1]
 have hnt:((⟨s.toArray⟩:ByteArray)=⟨#[110,111,116,104,105,110,103]⟩)=(s=nothingS):=mk_inj s nothingS
 by_cases h2:s=nothingS
 ·rw[if_pos h2]
  refine vspec_g rfl rfl (fun _ _=>rfl) (Nat.le_of_ble_eq_true rfl) (oldVals w) retOK_fin rfl fun C hC h0=>?_
  rw[eq_true h2] at hnt
  have hl7:s.length≤2000:=by omega
  simp (disch:=first|omega|assumption|exact bd (by with_unfolding_all rfl)|exact Or.inl rfl|(simp only[VVlen]<;>omega)|fail) only[O1,WA,Nat.reduceEqDiff,Nat.reduceLT,↓reduceIte,reduceCtorEq,c13,hsz,hnt]
  all_goals try (exfalso;omega)
  exact weak_finNil h0 rfl
 rw[if_neg h2]
 have hsp:=rcommas_p w (n+4) s (by omega)
 have hsl:=splitC_len s
 have hsm:=splitC_mem s
 have hsn:=splitC_ne s
 generalize splitC s=q at*
 refine vspec_g rfl rfl (fun _ _=>rfl) (Nat.le_of_ble_eq_true rfl) (oldVals w) (by
  cases rawS q [] with
  |none=>exact retOK_fin
  |some L=>simp only;split<;>exact retOK_fin) rfl fun C hC h0=>?_
 have hrn:C.E.rounds=many:=by rw[hC,callP_rounds]
 simp (disch:=first|omega|assumption|exact bd (by with_unfolding_all rfl)|exact Or.inl rfl|(simp only[VVlen]<;>omega)|fail) only[O1,WA,Nat.reduceEqDiff,Nat.reduceLT,↓reduceIte,reduceCtorEq,c13,hsz,hnt,h2]
 all_goals try (exfalso;omega)
 refine callV_fin (by rw[hC];exact hsp) rfl rfl (fun _=>rfl) ?_
 repeat' (first|(simp (disch:=first|omega|assumption|exact bd (by with_unfolding_all rfl)|exact Or.inl rfl|(simp only[VVlen]<;>omega)|fail) only[O1,WA,slotsL,opdsA,Nat.reduceEqDiff,Nat.reduceLT,Nat.reduceAdd,Nat.reduceBEq,Int.reduceAdd,Int.reduceSub,Int.reduceLT,Int.reduceLE,Int.reduceEq,Int.reduceNeg,↓reduceIte,reduceCtorEq,List.replicate])|apply gC_drawW|((first|apply gI_dec|apply gG_dec|apply gPG_dec|apply gI_var|apply gG_var|apply gPG_var)<;>intro _))
 refine g_while (fun m fr st=>∃ (k:Nat) (acc:List Sti),m=q.length - k∧k≤q.length∧acc.length≤200∧(∀ x ∈ acc,StiP x)∧rawS q []=rawS (q.drop k) acc∧fr= [(0,strV s),(4,.gr 2 0 acc.length),(5,.sl 3 q.length (q.map sD)),(6,.sc (.int .i64 k))]∧st=⟨[(0,.gro 48 4 false (stiD acc))],1,0⟩) q.length ?_ ⟨_,_,weak_nilSlot 4 48 4 rfl,0,[],by omega,Nat.zero_le _,Nat.zero_le _,(fun x hx=>by cases hx),rfl,rfl,rfl⟩ ?_
 ·rw[hrn];unfold many;omega
 rintro m fr st ⟨k,acc,rfl,hk,hal,hap,hraw,rfl,rfl⟩
 by_cases hlt:k<q.length
 ·have hqk:q.drop k=q[k]! ::q.drop (k+1):=by rw[List.drop_eq_getElem_cons hlt,getElem!_pos q k hlt]
  have hpl:=hsm q[k]! (by rw[getElem!_pos q k hlt];exact List.getElem_mem hlt)
  have hrd:=rone_p w (n+1) q[k]! (by omega)
  rw[hqk,rawS] at hraw
  generalize hp:q[k]! =p at*
  cases hr:readS p with
  |none=>
   rw[hr] at hrd hraw
   rw[hraw]
   unfold oneV at hrd
   simp (disch:=first|omega|assumption|exact bd (by with_unfolding_all rfl)|exact Or.inl rfl|(simp only[VVlen]<;>omega)|fail) only[O1,WA,Nat.reduceEqDiff,Nat.reduceLT,↓reduceIte,reduceCtorEq,c13l1,hp]
   all_goals try (exfalso;omega)
   refine callV_flat (by rw[hC];exact hrd.flat rfl rfl) ?_
   simp (disch:=first|omega|assumption|exact bd (by with_unfolding_all rfl)|exact Or.inl rfl|(simp only[VVlen]<;>omega)|fail) only[O1,WA,Nat.reduceEqDiff,Nat.reduceLT,Nat.reduceAdd,↓reduceIte,reduceCtorEq,List.replicate]
   exact weak_finNil h0 rfl
  |some xm=>
   obtain ⟨x,z⟩:=xm
   obtain ⟨hx,hz,hps⟩:=readS_some hr
   rw[hr] at hrd hraw
   simp only at hraw
   unfold oneV at hrd
   obtain ⟨m,rfl⟩:=Int.eq_ofNat_of_zero_le (show 0≤z by omega)
   by_cases hgt:200<(acc.length:Int)+(m:Int)
   ·rw[if_pos hgt] at hraw
    rw[hraw]
    obtain ⟨xk,xp,xa,xb⟩:=x
    simp (disch:=first|omega|assumption|exact bd (by with_unfolding_all rfl)|exact Or.inl rfl|(simp only[VVlen]<;>omega)|fail) only[O1,WA,Nat.reduceEqDiff,Nat.reduceLT,↓reduceIte,reduceCtorEq,c13l1,hp]
    all_goals try (exfalso;omega)
    refine callV_flat (by rw[hC];exact hrd.flat rfl rfl) ?_
    simp (disch:=first|omega|assumption|exact bd (by with_unfolding_all rfl)|exact Or.inl rfl|(simp only[VVlen]<;>omega)|fail) only[O1,WA,Nat.reduceEqDiff,Nat.reduceLT,Nat.reduceAdd,↓reduceIte,reduceCtorEq,List.replicate]
    all_goals try (exfalso;omega)
    exact weak_finNil h0 rfl
   ·rw[if_neg hgt,Int.toNat_natCast] at hraw
    have hin:=fun K P hg=>rpc_inner w n hC h0 s q k acc x m (by omega) (K:=K) (P:=P) hg
    obtain ⟨xk,xp,xa,xb⟩:=x
    simp (disch:=first|omega|assumption|exact bd (by with_unfolding_all rfl)|exact Or.inl rfl|(simp only[VVlen]<;>omega)|fail) only[O1,WA,Nat.reduceEqDiff,Nat.reduceLT,↓reduceIte,reduceCtorEq,c13l1,hp]
    all_goals try (exfalso;omega)
    refine callV_flat (by rw[hC];exact hrd.flat rfl rfl) ?_
    simp (disch:=first|omega|assumption|exact bd (by with_unfolding_all rfl)|exact Or.inl rfl|(simp only[VVlen]<;>omega)|fail) only[O1,WA,Nat.reduceEqDiff,Nat.reduceLT,Nat.reduceAdd,↓reduceIte,reduceCtorEq,List.replicate]
    all_goals try (exfalso;omega)
    refine hin _ _ ?_
    generalize hA:acc++List.replicate m ⟨xk,xp,xa,xb⟩=A at*
    have hAl:A.length≤200:=by rw[← hA];simp;omega
    have hAp:∀ y ∈ A,StiP y:=fun y hy=>by
     rw[← hA] at hy
     rcases List.mem_append.1 hy with hy|hy
     ·exact hap y hy
     ·rw[List.eq_of_mem_replicate hy];exact hx
    simp (disch:=first|omega|assumption|exact bd (by with_unfolding_all rfl)|exact Or.inl rfl|(simp only[VVlen]<;>omega)|fail) only[O1,WA,Nat.reduceEqDiff,Nat.reduceLT,↓reduceIte,reduceCtorEq]
    exact ⟨q.length - (k+1),_,_,by omega,weak_to [(0,0)] 1 h0 rfl rfl rfl rfl,k+1,A,rfl,by omega,hAl,hAp,hraw,rfl,rfl⟩
 ·have:k=q.length:=by omega
  subst this
  rw[List.drop_length,rawS] at hraw
  rw[hraw]
  simp only
  have hd:=stiD_len acc
  have ha:=rall_p w (n+2) 2 acc (by omega) fun y hy=>by have:=(hap y hy).bounds;omega
  have hwr:=fun hok=>rwords_p w (n+1) 2 acc hal hok
  have hok0:=fun h:allF acc=0=>(allF_ok h).2.1
  have h1:∀ st:VSt,aget st.own 0=some (.gro 48 4 false (stiD acc))→snapL st.own [.gr 2 0 acc.length]=some [.sl 2 acc.length (stiD acc)]:=fun st h=>snapL_one (snap_gr4 h hd)
  have hfin:snapV ([(0,.gro 48 4 false (stiD acc))]:VHp) (.gr 2 0 acc.length)=some (.sl 2 acc.length (stiD acc)):=snap_gr4 rfl hd
  by_cases h3:allF acc=0
  ·have hwr:=hwr (hok0 h3)
   rw[h3] at ha
   have hmj:((⟨(wordsS acc).toArray⟩:ByteArray)=⟨s.toArray⟩)=(wordsS acc=s):=mk_inj _ _
   by_cases h4:wordsS acc=s
   ·rw[if_pos ⟨h3,h4⟩]
    rw[h4] at hwr
    simp (disch:=first|omega|assumption|exact bd (by with_unfolding_all rfl)|exact Or.inl rfl|(simp only[VVlen]<;>omega)|fail) only[O1,WA,Nat.reduceEqDiff,Nat.reduceLT,↓reduceIte,reduceCtorEq,c13l1]
    all_goals try (exfalso;omega)
    refine callV_flat (by rw[hC];exact ha.flat rfl (h1 _ rfl)) ?_
    simp (disch:=first|omega|assumption|exact bd (by with_unfolding_all rfl)|exact Or.inl rfl|(simp only[VVlen]<;>omega)|fail) only[O1,WA,Nat.reduceEqDiff,Nat.reduceLT,↓reduceIte,reduceCtorEq]
    refine callV_flat (by rw[hC];exact hwr.flat rfl (h1 _ rfl)) ?_
    simp (disch:=first|omega|assumption|exact bd (by with_unfolding_all rfl)|exact Or.inl rfl|(simp only[VVlen]<;>omega)|fail) only[O1,WA,Nat.reduceEqDiff,Nat.reduceLT,↓reduceIte,reduceCtorEq]
    exact weak_fin (s:=2) (n:=acc.length) (l:=stiD acc) hfin rfl (.inl (by decide)) h0 rfl
   ·rw[if_neg fun h=>h4 h.2]
    rw[eq_false h4] at hmj
    generalize wordsS acc=W at*
    simp (disch:=first|omega|assumption|exact bd (by with_unfolding_all rfl)|exact Or.inl rfl|(simp only[VVlen]<;>omega)|fail) only[O1,WA,Nat.reduceEqDiff,Nat.reduceLT,↓reduceIte,reduceCtorEq,c13l1]
    all_goals try (exfalso;omega)
    refine callV_flat (by rw[hC];exact ha.flat rfl (h1 _ rfl)) ?_
    simp (disch:=first|omega|assumption|exact bd (by with_unfolding_all rfl)|exact Or.inl rfl|(simp only[VVlen]<;>omega)|fail) only[O1,WA,Nat.reduceEqDiff,Nat.reduceLT,↓reduceIte,reduceCtorEq]
    refine callV_flat (by rw[hC];exact hwr.flat rfl (h1 _ rfl)) ?_
    simp (disch:=first|omega|assumption|exact bd (by with_unfolding_all rfl)|exact Or.inl rfl|(simp only[VVlen]<;>omega)|fail) only[O1,WA,Nat.reduceEqDiff,Nat.reduceLT,↓reduceIte,reduceCtorEq,hmj]
    exact weak_finNil h0 rfl
  ·rw[if_neg fun h=>h3 h.1]
   generalize allF acc=e at*
   simp (disch:=first|omega|assumption|exact bd (by with_unfolding_all rfl)|exact Or.inl rfl|(simp only[VVlen]<;>omega)|fail) only[O1,WA,Nat.reduceEqDiff,Nat.reduceLT,↓reduceIte,reduceCtorEq,c13l1]
   all_goals try (exfalso;omega)
   refine callV_flat (by rw[hC];exact ha.flat rfl (h1 _ rfl)) ?_
   simp (disch:=first|omega|assumption|exact bd (by with_unfolding_all rfl)|exact Or.inl rfl|(simp only[VVlen]<;>omega)|fail) only[O1,WA,Nat.reduceEqDiff,Nat.reduceLT,↓reduceIte,reduceCtorEq]
   all_goals try (exfalso;omega)
   exact weak_finNil h0 rfl
end
set_option maxHeartbeats 1000000
theorem parseC_len (s:List UInt8):(parseC s).1.length≤200:=by
 unfold parseC
 cases h:readC41 s with
 |none=>exact Nat.zero_le _
 |some L=>
  have h1:=readC41_some h
  have h2:allF L=0:=by
   by_cases e:allF L=0
   ·exact e
   ·unfold cellsF at h1
    rw[if_neg e] at h1
    exact absurd (congrArg Prod.snd h1) e
  exact (allF_ok h2).1
theorem wcells_walk (w:World) {C:Ctx} (hC:C.E=EN w 9) (h0:C.w0.nx=0) (L:List Sti) (s:List UInt8) (hs:s.length≤2500) (T:List UInt8) (Te:Int) (M:List Sti) (Me:Int)
  (hg:VSpec (EN w 9) 9 [.sl 3 L.length (stiD L)] (.sc (.bool false)) ⟨[],0,0⟩)
  (t1:VSpec (EN w 9) 10 [.sl 3 L.length (stiD L)] (.tup [strV T,.sc (.int .i64 Te)]) ⟨[],0,0⟩)
  (t2:VSpec (EN w 9) 11 [.sl 3 L.length (stiD L)] (.tup [strV T,.sc (.int .i64 Te)]) ⟨[],0,0⟩)
  (p1:VSpec (EN w 9) 12 [strV s] (.tup [.sl 3 M.length (stiD M),.sc (.int .i64 Me)]) ⟨[],0,0⟩)
  (p2:VSpec (EN w 9) 13 [strV s] (.tup [.sl 3 M.length (stiD M),.sc (.int .i64 Me)]) ⟨[],0,0⟩)
  (s1:VSpec (EN w 9) 14 [.sl 3 M.length (stiD M),.sl 3 M.length (stiD M)] (.sc (.bool true)) ⟨[],0,0⟩):
  gC C c3.code [] (vargs 0 [.sl 3 L.length (stiD L),strV s]) ⟨[],0,0⟩ (RetV C c3.res (.sc (.bool true)) ⟨[],0,0⟩):=by
 have hsz:=mk_size s
 simp (disch:=first|omega|assumption|exact bd (by with_unfolding_all rfl)|exact Or.inl rfl|(simp only[VVlen]<;>omega)|fail) only[O1,WA,Nat.reduceEqDiff,Nat.reduceLT,↓reduceIte,reduceCtorEq,c3,hsz]
 refine callV_flat (by rw[hC];exact hg.flat rfl rfl) ?_
 simp (disch:=first|omega|assumption|exact bd (by with_unfolding_all rfl)|exact Or.inl rfl|(simp only[VVlen]<;>omega)|fail) only[O1,WA,Nat.reduceEqDiff,Nat.reduceLT,↓reduceIte,reduceCtorEq,hsz]
 all_goals try (exfalso;omega)
 refine callV_flat (by rw[hC];exact t1.flat rfl rfl) ?_
 simp (disch:=first|omega|assumption|exact bd (by with_unfolding_all rfl)|exact Or.inl rfl|(simp only[VVlen]<;>omega)|fail) only[O1,WA,Nat.reduceEqDiff,Nat.reduceLT,↓reduceIte,reduceCtorEq]
 refine callV_flat (by rw[hC];exact t2.flat rfl rfl) ?_
 simp (disch:=first|omega|assumption|exact bd (by with_unfolding_all rfl)|exact Or.inl rfl|(simp only[VVlen]<;>omega)|fail) only[O1,WA,Nat.reduceEqDiff,Nat.reduceLT,↓reduceIte,reduceCtorEq]
 refine callV_fin (by rw[hC];exact p1) rfl rfl (fun _=>rfl) ?_
 simp (disch:=first|omega|assumption|exact bd (by with_unfolding_all rfl)|exact Or.inl rfl|(simp only[VVlen]<;>omega)|fail) only[O1,WA,Nat.reduceEqDiff,Nat.reduceLT,↓reduceIte]
 refine callV_fin (by rw[hC];exact p2) rfl rfl (fun _=>rfl) ?_
 simp (disch:=first|omega|assumption|exact bd (by with_unfolding_all rfl)|exact Or.inl rfl|(simp only[VVlen]<;>omega)|fail) only[O1,WA,Nat.reduceEqDiff,Nat.reduceLT,↓reduceIte]
 refine callV_flat (by rw[hC];exact s1.flat rfl rfl) ?_
 simp (disch:=first|omega|assumption|exact bd (by with_unfolding_all rfl)|exact Or.inl rfl|(simp only[VVlen]<;>omega)|fail) only[O1,WA,Nat.reduceEqDiff,Nat.reduceLT,↓reduceIte]
 all_goals exact weak_flat rfl h0 rfl
theorem wcells_g (w:World) (L:List Sti) (hK:KOK L) (s:List UInt8) (hL:L.length≤140737488351232) (hs:s.length≤140737488351232) {C:Ctx} (hC:C.E=EN w 9) (h0:C.w0.nx=0):
  gC C c3.code [] (vargs 0 [.sl 3 L.length (stiD L),strV s]) ⟨[],0,0⟩ (RetV C c3.res (.sc (.bool true)) ⟨[],0,0⟩):=by
 have hsz:=mk_size s
 have hg:=rgreat_p w 8 3 L hL
 cases hgb:greatB L.length with
 |true=>
  rw[hgb] at hg
  simp (disch:=first|omega|assumption|exact bd (by with_unfolding_all rfl)|exact Or.inl rfl|(simp only[VVlen]<;>omega)|fail) only[O1,WA,Nat.reduceEqDiff,Nat.reduceLT,↓reduceIte,reduceCtorEq,c3,hsz]
  refine callV_flat (by rw[hC];exact hg.flat rfl rfl) ?_
  simp (disch:=first|omega|assumption|exact bd (by with_unfolding_all rfl)|exact Or.inl rfl|(simp only[VVlen]<;>omega)|fail) only[O1,WA,Nat.reduceEqDiff,Nat.reduceLT,↓reduceIte,reduceCtorEq,hsz]
  all_goals try (exfalso;omega)
  all_goals exact weak_flat rfl h0 rfl
 |false=>
  rw[hgb] at hg
  by_cases hs2:2500<s.length
  ·simp (disch:=first|omega|assumption|exact bd (by with_unfolding_all rfl)|exact Or.inl rfl|(simp only[VVlen]<;>omega)|fail) only[O1,WA,Nat.reduceEqDiff,Nat.reduceLT,↓reduceIte,reduceCtorEq,c3,hsz]
   refine callV_flat (by rw[hC];exact hg.flat rfl rfl) ?_
   simp (disch:=first|omega|assumption|exact bd (by with_unfolding_all rfl)|exact Or.inl rfl|(simp only[VVlen]<;>omega)|fail) only[O1,WA,Nat.reduceEqDiff,Nat.reduceLT,↓reduceIte,reduceCtorEq,hsz]
   all_goals try (exfalso;omega)
   all_goals exact weak_flat rfl h0 rfl
  ·have hl:=parseC_len s
   have hsm:=rsame_p w 8 3 3 (parseC s).1 (parseC s).1 (by omega) (by omega)
   rw[decide_eq_true rfl] at hsm
   exact wcells_walk w hC h0 L s (by omega) (cellsF L).1 (cellsF L).2 (parseC s).1 (parseC s).2 hg (cells_p w 2 3 L hL hK) (rcells_p w 4 3 L hL hK) (pcells_p w 0 s (by omega)) (rpcells_p w 3 s (by omega)) hsm
end Go.Proofs.YtimmmnanllcfoaaDoor
namespace Go.Proofs.YtimmmnanllcfoaaDoor
open Go Go.Itp
open Go.ChangeShapes Go.WideShapes Go.ChangeAt Go.RowKit
set_option linter.unusedVariables false
set_option maxRecDepth 100000
set_option maxHeartbeats 4000000
theorem reach_lt:reachBytes≤140737488351232:=by decide
abbrev StiU:={x:Sti // x.kind<256}
instance:Inhabited StiU:=⟨⟨sti0,by decide⟩⟩
def stiC (x:StiU):List Value:= [.int .u8 x.1.kind,.bool x.1.purl,.int .i64 x.1.a,.int .i64 x.1.b]
theorem cellsC:Tryd.prog.cellsOf 48=4:=by kernel_rfl
theorem bytesC:Tryd.prog.bytesOf 48=24:=by kernel_rfl
theorem dec_sti {H:Type} {enc:TypeId × Value→H} {W:World} {held:Bool} (cs:List Value) (n:Nat) (y:DataW H × List MemPlace) (hl:cs.length=4) (h:DataW.trod enc Tryd.prog W 0 (fun _=>true) held n 48 cs=some y):∃ x:StiU,cs=stiC x:=by
 obtain ⟨m,a0,a1,a2,a3,rfl,⟨y0,h0⟩,⟨y1,h1⟩,⟨y2,h2⟩,y3,h3⟩:=dec_four Tryd.underlying48 rfl rfl rfl rfl (by kernel_rfl) (by kernel_rfl) (by kernel_rfl) (by kernel_rfl) cs n y hl h
 obtain ⟨x0,k0,_,j0⟩:=DataW.trod_int Tryd.underlying5 h0
 obtain ⟨x1,k1⟩:=dec_bool Tryd.underlying4 _ _ _ h1
 obtain ⟨x2,k2,_⟩:=DataW.trod_int Tryd.underlying3 h2
 obtain ⟨x3,k3,_⟩:=DataW.trod_int Tryd.underlying3 h3
 simp only[List.cons.injEq,and_true] at k0 k2 k3
 have b0:=wf8 j0
 obtain ⟨u0,rfl⟩:=Int.eq_ofNat_of_zero_le b0.1
 exact ⟨⟨⟨u0,x1,x2,x3⟩,by simp only;omega⟩,by rw[k0,k1,k2,k3];rfl⟩
def listed:List (String × DataW Unit):= [("math/bits.deBruijn32tab",Rows.laid_math_bits_deBruijn32tab),("math/bits.deBruijn64tab",Rows.laid_math_bits_deBruijn64tab),("internal/strconv.uint64pow10",Rows.laid_internal_strconv_uint64pow10),("unicode/utf8.acceptRanges",Rows.laid_unicode_utf8_acceptRanges),("unicode/utf8.first",Rows.laid_unicode_utf8_first)]
theorem listed_met (os:Os) (args:Array Value):laidMetH Tryd.prog listed ((World.laidAll Tryd.prog os listed).forCall (fun _ _=>0) ⟨#[],args,[]⟩).memory:=by
 rw[MakeChecks.laidMetH_plain _ _ _ (by kernel_rfl)]
 exact laidMet_laidAll _ (by kernel_rfl) (by kernel_rfl)
theorem listed_shaped (os:Os):(World.laidAll Tryd.prog os listed).Shaped Tryd.prog:=World.shaped_of_ZipB (by kernel_rfl) (by kernel_rfl)
theorem stand_ins {l:List TypeId} {t:TypeId} (hall:(l.all fun u=> !Tryd.prog.wantsStandIn u)=true) (h:t ∈ l):Tryd.prog.wantsStandIn t=false:=by
 have:=List.all_eq_true.1 hall t h
 simpa using this
theorem wcells_lifted (os:Os) (started:os.Started) (H:Type) (enc:TypeId × Value→H):
  ReturnsInHanded {} Tryd.checked os 3 .any (fun w args=>(Rows.wordsCellsSpec.pre enc Tryd.prog Tryd.f3 [] false w args∧laidMetH Tryd.prog listed w)∧sizedMet enc Tryd.prog Tryd.f3 (OpenSpec.ofChange Rows.wordsCellsSpec) false w args)
   (Rows.wordsCellsSpec.post enc Tryd.prog Tryd.f3 false true false false):=by
 refine hand_open (C:=Tryd.checked) (X:=fun w _=>laidMetH Tryd.prog listed w) (fun _ _ _ hh h=>h.of_heap hh) own started (by kernel_rfl) Tryd.func3
  (ChangeSpec.witness_shaped (enc:=enc) (C:=Tryd.checked) (os:=os) (X:=fun w _=>laidMetH Tryd.prog listed w) false (World.laidAll Tryd.prog os listed) #[.slice none 0 0,.string .empty] 8 (World.laidAll_os _ _ _) (listed_shaped os) (by kernel_rfl) (by kernel_rfl) (by kernel_rfl) (listed_met os _)) ?_
 intro W base args ds gs before hval0 hW hsz0 hL hsh
 have hval:∀ (j:Nat) t v,Tryd.f3.params[j]? =some t→args[j]? =some v→Value.okWide Tryd.prog W .any base t v:=hval0
 have hW':=hW
 obtain ⟨p,q,hA0,hV,rfl,hfz,hnd⟩:=hW
 have hA:DataW.TrodAll enc Tryd.prog W 0 (fun _=>true) true Tryd.f3.params.toList args.toList ds p:=hA0
 have hsz:(DataW.weightsEach Tryd.prog (Tryd.f3.params.toList++Rows.wordsCellsSpec.plain.varTypes Tryd.prog) (ds++gs)).all (· ≤reachBytes)=true:=hsz0
 rw[Tryd.params3] at hA hval hsz
 obtain ⟨v0,vs0,d0,ds0,p0,q0,hargs,rfl,rfl,h0,r0⟩:=trodAll_cons hA
 obtain ⟨v1,vs1,d1,ds1,p1,q1,rfl,rfl,rfl,h1,r1⟩:=trodAll_cons r0
 obtain ⟨rfl,rfl,rfl⟩:=trodAll_nil r1
 obtain rfl:args=#[v0,v1]:=by cases args;simp_all
 have hr:=reach_lt
 obtain ⟨m0,hm0,hli0,hlr0⟩:=rd_structs' (α:=StiU) (g:=stiC) (q:=4) (by decide) (fun a=>⟨rfl,fun c hc=>by simp[stiC] at hc;rcases hc with rfl|rfl|rfl|rfl<;>rfl⟩) Tryd.underlying22 cellsC (by rw[bytesC];decide) (hval 0 22 v0 rfl rfl) h0 (weights_at (j:=0) hsz rfl rfl) (fun cs n y hl hy=>dec_sti cs n y hl hy)
 rw[bytesC] at hlr0
 obtain ⟨l0,hl0,hK0,hlen0⟩:∃ l:List Sti,stiD l=m0.flatMap (fun a=>(stiC a).map D.sc)∧KOK l∧l.length=m0.length:=⟨m0.map (·.1),by simp only[stiD,List.flatMap_map];rfl,fun x hx=>by obtain ⟨a,_,rfl⟩:=List.mem_map.1 hx;exact a.2,by simp⟩
 have hv0:VRep (wOld (oldOf W)) (.sl 3 l0.length (stiD l0)) v0:=by rw[hl0,hlen0];exact hm0
 obtain ⟨s1,rfl,hs1⟩:=open_str Tryd.underlying9 (hval 1 9 v1 rfl rfl) h1 (weights_at (j:=1) hsz rfl rfl)
 obtain ⟨x1,rfl⟩:∃ x:List UInt8,s1=⟨x.toArray⟩:=⟨s1.data.toList,by simp⟩
 rw[mk_size] at hs1
 have hLm:laidMet Tryd.prog listed W:=by rw[← MakeChecks.laidMetH_plain _ _ _ (by kernel_rfl)];exact hL
 have hmx:MaxIs W:=cell_of_shapedOpen_int (P:=Tryd.prog) (g:=0) (t:=3) (zero:=#[.int .i64 0]) hsh (of_decide_eq_true (by kernel_rfl)) (by kernel_rfl) rfl (by kernel_rfl) (by kernel_rfl) Tryd.underlying3
 have htab0:Lib.TabIs Tryd.prog W "internal/strconv.uint64pow10" .u64 Lib.pow10Tab:=laid_tab hLm 2 rfl (g:=1) (t:=145) (e:=135) (k:= .u64) (m:=20) (by kernel_rfl) (by kernel_rfl) Tryd.underlying145 Tryd.underlying135 (by kernel_rfl) (by kernel_rfl) rfl
 obtain ⟨s',hbody⟩:=law_v (old:=oldOf W) (rounds:=many) (fns:=fns) (prims:=PR W) (n:=9) (af:=c3) (xs:= [.sl 3 l0.length (stiD l0),.sc (.string ⟨x1.toArray⟩)]) (xsI:= [v0,.string ⟨x1.toArray⟩]) (x:= .bool true) (Nat.le_of_ble_eq_true rfl)
  (by simp only[VRepL];exact ⟨_,_,rfl,hv0,_,_,rfl,.mksc rfl,rfl⟩) fun C hC hn=>wcells_g W l0 hK0 x1 (by omega) (by omega) hC hn
 have hfn:fns 3=some c3:=rfl
 have hrv:ids 0 (.bool true)= []:=rfl
 refine (law_of (W:=W) ⟨htab0,hmx⟩ (f:=3) (af:=c3) hfn (xs:= [v0,.string ⟨x1.toArray⟩]) (by simp only[idsL_cons,hli0];rfl) _ hbody hrv).mono fun e W' ⟨he,hbe⟩=>?_
 exact ⟨_,he,law_post hW' rfl rfl (by kernel_rfl) (by kernel_rfl) Tryd.underlying4 hbe⟩
theorem wcells_over:Rows.WordsCellsSaid:=
 OpenClaim.holds_of_wide 3 Tryd.f3 rfl rfl rfl rfl rfl rfl rfl ⟨rfl,rfl,rfl,rfl,rfl⟩ rfl rfl rfl rfl rfl (by kernel_rfl) Tryd.func3 (by kernel_rfl)
  (of_decide_eq_true (by kernel_rfl)) (by unfold Func.isWrapper;first|(rw[if_pos (by decide+kernel)];kernel_rfl)|(rw[if_neg (by decide+kernel)];exact ⟨rfl,rfl⟩))
  (fun os started H enc _=>wcells_lifted os started H enc)
theorem wcells_holds:Rows.WordsCellsCardSaid:=
 Claim7.holds_tied_plain_at .later [] [.data,.data,.data,.data,.pinned] true _ false
  wcells_over (fun _ h=>by cases h) (by kernel_rfl) (fun _ h=>by cases h) wordsCells_row_tie rfl ⟨rfl,rfl⟩ (by kernel_rfl) rfl
  (fun f fn hf hfn=>by
   obtain rfl:f=3:=Option.some.inj ((show Tryd.prog.funcNamed "raddle/raddlelaw41.WordsCells"=some 3 by kernel_rfl).symm.trans hf)|>.symm
   obtain rfl:fn=Tryd.f3:=(Option.some.inj (Tryd.func3.symm.trans hfn)).symm
   exact ⟨by kernel_rfl,fun j t ht=>stand_ins (l:= [22,9]) (by kernel_rfl) (by rw[Tryd.params3] at ht;simpa using Array.mem_of_getElem? ht)⟩)
  (by kernel_rfl)
#print axioms wcells_holds
end Go.Proofs.YtimmmnanllcfoaaDoor
