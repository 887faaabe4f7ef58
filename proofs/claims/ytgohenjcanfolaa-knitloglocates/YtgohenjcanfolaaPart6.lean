/- What is proved: the law KnitlogLocates returns true for every input.
   Texts: N44s, N44t, N44u, N44v, N44w, N44x, N44y, N44za, N44zb, N44zc, N44zd, N44ze, N44zf, N44zg, N44zh, N44zi, N44zj, N44zk, N44zl, N44zm, N44zn.
-/
import Derived.Test.YtgohenjcanfolaaPart5
import Derived.Test.YtgohenjcanfolaaRows
import Derived.SizedLaws
import Derived.ChangeAt
namespace Go.Proofs.Ytgohenjcanfolaa
open Go Go.Itp
set_option maxRecDepth 100000
set_option maxHeartbeats 1000000
set_option linter.unusedSimpArgs false
set_option linter.unusedVariables false
theorem dJ (nx t:Nat) (a b c d:Value):P7 nx t 4 1 [.int .u8 0,.bool false,.int .i64 0,.int .i64 0] [(0,4,.agg [.sc a,.sc b,.sc c,.sc d])]=some (.ref nx 0 1 1,some (.row t 4 false false [.sc a,.sc b,.sc c,.sc d]),[]):=(rfl)
theorem wR {H:D6} {o t n:Nat} {z:Bool} {l:List D} (h:i7 H o=some (.gro t 4 z l)) (hl:l.length=n*4):B1 H (.gr 2 o n)=some (.sl 2 n l):=by
 simp only[B1,aL,h]
 rw[if_pos ⟨hl,by decide,by decide,by decide⟩]
 rfl
theorem wS {H:D6} {o c t:Nat} {g z:Bool} {l:List D} (h:i7 H o=some (.row t 4 g z l)):B1 H (.ref o 0 0 c)=some (.sl 0 0 []):=by
 simp only[B1,aL,h,Nat.zero_add,List.drop_zero]
 rw[if_pos (by omega)]
 rfl
theorem iJ (A B:List q8):v8 (A++B)=v8 A++v8 B:=by simp[v8]
theorem qB (A:List q8) (x:q8):v8 (A++ [x])=v8 A++ [.sc (.int .u8 x.kind),.sc (.bool x.purl),.sc (.int .i64 x.a),.sc (.int .i64 x.b)]:=by simp[v8]
theorem UP (L:List q8):P1 (v8 L)=true:=by
 simp only[P1,List.all_eq_true]
 intro d hd
 simp only[v8,List.mem_flatMap] at hd
 obtain ⟨x,_,hc⟩:=hd
 simp at hc
 rcases hc with rfl|rfl|rfl|rfl<;>rfl
theorem X6 (L:List q8):(N1 L).length=L.length:=by simp[N1]
theorem oC (L:List q8) (j:Nat) (hj:j<L.length):(L.reverse.take (j+1)).map pP=(L.reverse.take j).map pP++ [pP L[L.length - 1 - j]!]:=by
 rw[List.take_succ_eq_append_getElem (by simpa using hj),List.map_append,List.getElem_reverse,getElem!_pos L (L.length - 1 - j) (by omega)]
 rfl
theorem aR2 {C:C6} (h0:C.w0.nx=0):L2 C [(0,.sc (.slice none 0 0))] ⟨[],0,0⟩ [(0,.sl 3 0 [])] ⟨[],0,0⟩:=
 (aD (C:=C) (st:=⟨[],0,0⟩) 0 0 1 rfl).trans (uB (s:=2) (n:=0) (l:= []) rfl rfl (.inl (by decide)) h0 rfl)
section
variable (w:World) (n:Nat)
theorem aK7 (s:Nat) (L:List q8) (hL:L.length≤1000000) (hk:s=2∨s=0∨0<L.length):n5 (EN w (n+1)) 49 [tS s L] (tS 3 L) ⟨[],0,0⟩:=by
 have hil:=v3 L
 have hok:=UP L
 refine N2 rfl rfl (fun _ _=>rfl) (Nat.le_of_ble_eq_true rfl) (k9 w) dH rfl fun C hC h0=>?_
 by_cases hl:L= []
 ·subst hl
  rcases hk with rfl|rfl|h
  ·have hnl:D7 1 (tS 2 [])=some true:=rfl
   simp (disch:=first|omega|exact f8|fail) only[WA,a8,b8,Nat.reduceEqDiff,Nat.reduceLT,Nat.reduceAdd,Nat.reduceBEq,Int.reduceAdd,Int.reduceSub,Int.reduceLT,Int.reduceLE,Int.reduceEq,Int.reduceNeg,↓reduceIte,reduceCtorEq,List.replicate,c49,U3,hnl]
   exact aR2 h0
  ·have hnl:D7 1 (tS 0 [])=some false:=rfl
   simp (disch:=first|omega|exact f8|(simp only[d9]<;>omega)) only[WA,a8,b8,Nat.reduceEqDiff,Nat.reduceLT,Nat.reduceAdd,Nat.reduceBEq,Int.reduceAdd,Int.reduceSub,Int.reduceLT,Int.reduceLE,Int.reduceEq,Int.reduceNeg,↓reduceIte,reduceCtorEq,List.replicate,c49,U3,hnl]
   exact uB (wS rfl) rfl (.inl (by decide)) h0 rfl
  ·exact absurd h (by decide)
 have hne:L.length ≠ 0:=fun h=>hl (List.eq_nil_of_length_eq_zero h)
 have hnl:D7 1 (tS s L)=some false:=by
  have h3:Nat.beq L.length 0=false:=vE.2 hne
  simp only[tS,jS,D7,h3]
  cases Nat.beq s 0<;>cases Nat.beq s 2<;>rfl
 simp (disch:=first|omega|exact f8|(simp only[d9]<;>omega)) only[WA,a8,b8,Nat.reduceEqDiff,Nat.reduceLT,Nat.reduceAdd,Nat.reduceBEq,Int.reduceAdd,Int.reduceSub,Int.reduceLT,Int.reduceLE,Int.reduceEq,Int.reduceNeg,↓reduceIte,reduceCtorEq,List.replicate,c49,U3,hnl]
 exact uB (wR rfl hil) rfl (.inl (by decide)) h0 rfl
theorem aD6 (s:Nat) (L:List v4) (hL:L.length≤1000000) (hk:0<L.length):n5 (EN w (n+1)) 27 [jS s L] (jS 3 L) ⟨[],0,0⟩:=by
 have hil:=l7 L
 have hok:=nH L
 refine N2 rfl rfl (fun _ _=>rfl) (Nat.le_of_ble_eq_true rfl) (k9 w) dH rfl fun C hC h0=>?_
 have hne:L.length ≠ 0:=by omega
 have hnl:D7 1 (jS s L)=some false:=by
  have h3:Nat.beq L.length 0=false:=vE.2 hne
  simp only[tS,jS,D7,h3]
  cases Nat.beq s 0<;>cases Nat.beq s 2<;>rfl
 simp (disch:=first|omega|exact f8|(simp only[d9]<;>omega)) only[WA,a8,b8,Nat.reduceEqDiff,Nat.reduceLT,Nat.reduceAdd,Nat.reduceBEq,Int.reduceAdd,Int.reduceSub,Int.reduceLT,Int.reduceLE,Int.reduceEq,Int.reduceNeg,↓reduceIte,reduceCtorEq,List.replicate,c27,U3,hnl]
 exact uB (bJ rfl hil) rfl (.inl (by decide)) h0 rfl
theorem aM4 (s:Nat) (L:List q8) (hL:L.length≤1000000) (hK:GQ L):n5 (EN w (n+2)) 52 [tS s L] (tS 3 (N1 L)) ⟨[],0,0⟩:=by
 have hil:=v3 L
 unfold tS
 rw[X6]
 refine N2 rfl rfl (fun _ _=>rfl) (Nat.le_of_ble_eq_true rfl) (k9 w) dH rfl fun C hC h0=>?_
 have hrn:C.E.rounds=x8:=by rw[hC,j8]
 simp (disch:=first|omega|exact f8|fail) only[WA,a8,b8,Nat.reduceEqDiff,Nat.reduceLT,Nat.reduceAdd,Nat.reduceBEq,Int.reduceAdd,Int.reduceSub,Int.reduceLT,Int.reduceLE,Int.reduceEq,Int.reduceNeg,↓reduceIte,reduceCtorEq,List.replicate,c52]
 refine n9 (fun m fr st=>∃ (j:Nat),m=L.length - j∧j≤L.length∧fr= [(0,tS s L),(3,.gr 2 0 j),(4,iN ((L.length:Int) - 1 - j))]∧st=⟨[(0,.gro 53 4 false (v8 ((L.reverse.take j).map pP)))],1,0⟩) L.length ?_ ⟨_,_,aD 3 53 4 rfl,0,by omega,Nat.zero_le _,?_,rfl⟩ ?_
 ·rw[hrn];unfold x8;omega
 ·simp[lC]
 rintro m fr st ⟨j,rfl,hj,rfl,rfl⟩
 by_cases hlt:j<L.length
 case neg=>
  have:j=L.length:=by omega
  subst this
  have e:(L.reverse.take L.length).map pP=N1 L:=by unfold N1;rw[List.take_of_length_le (by simp)]
  rw[e]
  have hl:=v3 (N1 L)
  rw[X6] at hl
  generalize v8 (N1 L)=Z at*
  simp (disch:=first|omega|exact f8|fail) only[WA,a8,b8,Nat.reduceEqDiff,Nat.reduceLT,Nat.reduceAdd,Nat.reduceBEq,Int.reduceAdd,Int.reduceSub,Int.reduceLT,Int.reduceLE,Int.reduceEq,Int.reduceNeg,↓reduceIte,reduceCtorEq,List.replicate,ZD]
  all_goals try (exfalso;omega)
  exact uB (wR rfl hl) rfl (.inl (by decide)) h0 rfl
 have hst:=oC L j hlt
 have hag:=Q9 L (L.length - 1 - j) (by omega)
 have hkk:=hK.at (k:=L.length - 1 - j) (by omega)
 have ho:=aS1 w n L[L.length - 1 - j]! hkk
 have hix:((L.length:Int) - 1 - j)=((L.length - 1 - j:Nat):Int):=by omega
 have hd:=v3 ((L.reverse.take j).map pP)
 have hdl:((L.reverse.take j).map pP).length=j:=by rw[List.length_map,List.length_take,List.length_reverse];omega
 rw[hdl] at hd
 rw[hix]
 have hsn:=qB ((L.reverse.take j).map pP) (pP L[L.length - 1 - j]!)
 rw[← hst] at hsn
 have hi1:L.length - 1 - j<L.length:=by omega
 have hin:((L.length:Int) - 1 - ((j+1:Nat):Int))=((L.length - 1 - j:Nat):Int) - 1:=by omega
 generalize v8 ((L.reverse.take j).map pP)=AD at*
 generalize pP L[L.length - 1 - j]! =y at*
 generalize L[L.length - 1 - j]! =x at*
 generalize L.length - 1 - j=i at*
 obtain ⟨xk,xp,xa,xb⟩:=x
 obtain ⟨yk,yp,ya,yb⟩:=y
 simp (disch:=first|omega|exact f8|fail) only[WA,a8,b8,Nat.reduceEqDiff,Nat.reduceLT,Nat.reduceAdd,Nat.reduceBEq,Int.reduceAdd,Int.reduceSub,Int.reduceLT,Int.reduceLE,Int.reduceEq,Int.reduceNeg,↓reduceIte,reduceCtorEq,List.replicate,ZD,hag]
 all_goals try (exfalso;omega)
 refine a9 (by rw[hC];exact ho.flat rfl rfl) ?_
 simp (disch:=first|omega|exact f8|(simp only[d9]<;>omega)) only[WA,a8,b8,Nat.reduceEqDiff,Nat.reduceLT,Nat.reduceAdd,Nat.reduceBEq,Int.reduceAdd,Int.reduceSub,Int.reduceLT,Int.reduceLE,Int.reduceEq,Int.reduceNeg,↓reduceIte,reduceCtorEq,List.replicate,dJ]
 exact ⟨L.length - (j+1),_,_,by omega,o7 [(2,0)] 1 h0 rfl rfl rfl rfl,j+1,rfl,by omega,by rw[hin];rfl,by rw[hsn];rfl⟩
end
section
variable (w:World) (n:Nat)
theorem bH8 (k:Nat) (b:Bool) (L:List q8) (hL:L.length≤1000000) (hK:GQ L):n5 (EN w (n+3)) 42 [.agg [.sc (.bool b),tS k L]] (tS 3 (H0 (b,L))) ⟨[],0,0⟩:=by
 have hil:=v3 L
 have hok:=UP L
 refine N2 rfl rfl (fun _ _=>rfl) (Nat.le_of_ble_eq_true rfl) (k9 w) dH rfl fun C hC h0=>?_
 unfold H0
 cases b with
 |true=>
  rw[if_pos rfl]
  have ht:=aM4 w n k L hL hK
  simp only
  simp (disch:=first|exact f8|fail) only[WA,a8,b8,Nat.reduceEqDiff,Nat.reduceLT,Nat.reduceAdd,Nat.reduceBEq,Int.reduceAdd,Int.reduceSub,Int.reduceLT,Int.reduceLE,Int.reduceEq,Int.reduceNeg,↓reduceIte,reduceCtorEq,List.replicate,c42]
  refine M3 (by rw[hC];exact ht) rfl rfl (fun _=>rfl) ?_
  repeat' (first|(simp (disch:=fail) only[WA,a8,b8,Nat.reduceEqDiff,Nat.reduceLT,Nat.reduceAdd,Nat.reduceBEq,Int.reduceAdd,Int.reduceSub,Int.reduceLT,Int.reduceLE,Int.reduceEq,Int.reduceNeg,↓reduceIte,reduceCtorEq,List.replicate])|apply C3|((first|apply N9|apply D4|apply I8|apply O0|apply N8|apply I9)<;>intro _))
  exact o7 [] 0 h0 rfl rfl rfl rfl
 |false=>
  rw[if_neg (fun h=>by cases h)]
  simp only
  by_cases hl:L= []
  ·subst hl
   simp (disch:=first|omega|exact f8|(simp only[d9]<;>omega)) only[WA,a8,b8,Nat.reduceEqDiff,Nat.reduceLT,Nat.reduceAdd,Nat.reduceBEq,Int.reduceAdd,Int.reduceSub,Int.reduceLT,Int.reduceLE,Int.reduceEq,Int.reduceNeg,↓reduceIte,reduceCtorEq,List.replicate,c42]
   exact uB (wS rfl) rfl (.inl (by decide)) h0 rfl
  ·have hne:L.length ≠ 0:=fun h=>hl (List.eq_nil_of_length_eq_zero h)
   simp (disch:=first|omega|exact f8|(simp only[d9]<;>omega)) only[WA,a8,b8,Nat.reduceEqDiff,Nat.reduceLT,Nat.reduceAdd,Nat.reduceBEq,Int.reduceAdd,Int.reduceSub,Int.reduceLT,Int.reduceLE,Int.reduceEq,Int.reduceNeg,↓reduceIte,reduceCtorEq,List.replicate,c42]
   exact uB (wR rfl hil) rfl (.inl (by decide)) h0 rfl
end
abbrev jB (z:Int) (s k:Nat) (R:List (Bool × List q8)):Itp.Obj:= .box 31 1 [iN z,.sl s R.length (M1 k R)]
abbrev bV5 (z:Int) (s k:Nat) (R:List (Bool × List q8)) (e:Int):D6:= [(2,bV 0),(1,.box 24 1 [iN e]),(0,jB z s k R)]
section
variable (w:World) (n:Nat)
theorem VZ (s k:Nat) (hs:s ≠ 1) (z:Int) (R:List (Bool × List q8)):n5 (EN w (n+1)) 45 [cM s k (z,R)] (.fn 53 [] [.ptr 0 0]) ⟨[(0,jB z s k R)],1,0⟩:=by
 refine N2 rfl rfl (fun _ _=>rfl) (Nat.le_of_ble_eq_true rfl) (k9 w) ?_ rfl fun C hC hn=>?_
 ·have hc:Cl [(0,jB z s k R)] (.sl s R.length (M1 k R)):=by
   simp only[Cl,yL,Bool.or_eq_true,Bool.not_eq_true',vE];exact .inl hs
  refine ⟨?_,fun o t e L h=>?_,fun o ob h=>?_⟩
  ·simp only[Cl,OB,and_true,true_and]
   exact ⟨_,rfl,rfl⟩
  ·rw[m7,mJ] at h
   split at h
   ·cases h;exact ⟨trivial,hc,trivial⟩
   ·cases h
  ·rw[m7,mJ] at h
   split at h
   ·rename_i h1;subst h1
    exact fun _=>VR.root 0 (by simp[V7,fG])
   ·cases h
 ·simp (disch:=first|exact f8|fail) only[WA,a8,b8,Nat.reduceEqDiff,Nat.reduceLT,Nat.reduceAdd,Nat.reduceBEq,Int.reduceAdd,Int.reduceSub,Int.reduceLT,Int.reduceLE,Int.reduceEq,Int.reduceNeg,↓reduceIte,reduceCtorEq,List.replicate,c45]
  exact o7 [(0,0)] 1 hn rfl rfl rfl (by simp[vY,m7,PS,dO,X9])
theorem oS {E:D9} (z:Int) (s k:Nat) (R:List (Bool × List q8)) (X:Itp.Obj) (j b a e:Int) (Q2:V→n4→Prop)
  (h0:e=0→Q2 (.sc (.bool true)) ⟨[(4,.box 78 1 [iN b,iN a,iN e]),(2,bV 0),(1,.box 24 1 [iN 0]),(0,jB z s k R)],5,0⟩)
  (h1:e ≠ 0→Q2 (.sc (.bool false)) ⟨[(4,.box 78 1 [iN b,iN a,iN e]),(2,bV 2),(1,.box 24 1 [iN e]),(0,jB z s k R)],5,0⟩):
  DK E YY RI [(2,.ptr 1 0)] [19,20] 2 [iN j,.agg [iN b,iN a,iN e]] ⟨[(4,.box 78 1 [iN b,iN a,iN e]),(3,X),(2,bV 0),(1,.box 24 1 [iN 0]),(0,jB z s k R)],5,0⟩ Q2:=by
 refine ⟨Nat.zero_le _,rfl,(by show (2:Nat)<5;decide),_,rfl,fun C4 h4c h4n=>?_⟩
 simp (disch:=first|exact f8|(simp only[d9]<;>omega)) only[WA,a8,b8,Nat.reduceEqDiff,Nat.reduceLT,Nat.reduceAdd,Nat.reduceBEq,Int.reduceAdd,Int.reduceSub,Int.reduceLT,Int.reduceLE,Int.reduceEq,Int.reduceNeg,↓reduceIte,reduceCtorEq,List.replicate,YY]
 refine ⟨trivial,Nat.zero_le _,trivial,?_⟩
 by_cases he:e=0
 ·subst he
  simp (disch:=first|exact f8|fail) only[WA,a8,b8,Nat.reduceEqDiff,Nat.reduceLT,Nat.reduceAdd,Nat.reduceBEq,Int.reduceAdd,Int.reduceSub,Int.reduceLT,Int.reduceLE,Int.reduceEq,Int.reduceNeg,↓reduceIte,reduceCtorEq,List.replicate,RI]
  refine ⟨Nat.zero_le _,trivial,_,bR [(4,4),(2,2),(1,1),(0,0)] 5 (by rw[h4n];exact Nat.le_refl _) rfl (by rw[h4n];rfl) rfl rfl,?_⟩
  exact h0 rfl
 ·simp (disch:=first|omega|exact f8|(simp only[d9]<;>omega)) only[WA,a8,b8,Nat.reduceEqDiff,Nat.reduceLT,Nat.reduceAdd,Nat.reduceBEq,Int.reduceAdd,Int.reduceSub,Int.reduceLT,Int.reduceLE,Int.reduceEq,Int.reduceNeg,↓reduceIte,reduceCtorEq,List.replicate,RI]
  refine ⟨Nat.zero_le _,trivial,_,bR [(4,4),(2,2),(1,1),(0,0)] 5 (by rw[h4n];exact Nat.le_refl _) rfl (by rw[h4n];rfl) rfl rfl,?_⟩
  exact h1 he
end
section
variable (w:World) (n:Nat)
theorem zI (s k:Nat) (hs:s ≠ 1) (z:Int) (R:List (Bool × List q8)) (hc:R.length≤140737488351232) (hK:bT R):n5 (EN w (n+9)) 36 [cM s k (z,R)] (iN (fV (z,R))) ⟨[],0,0⟩:=by
 have hil:=E6 k R
 unfold fV
 simp only
 refine i9 rfl rfl (fun _ _=>rfl) (Nat.le_of_ble_eq_true rfl) (k9 w) rfl fun C hC h0=>?_
 by_cases e1:100<R.length
 ·rw[if_pos e1]
  simp (disch:=first|omega|exact f8|(simp only[d9]<;>omega)) only[WA,a8,b8,Nat.reduceEqDiff,Nat.reduceLT,Nat.reduceAdd,Nat.reduceBEq,Int.reduceAdd,Int.reduceSub,Int.reduceLT,Int.reduceLE,Int.reduceEq,Int.reduceNeg,↓reduceIte,reduceCtorEq,List.replicate,c36]
  all_goals try (exfalso;omega)
  exact b9 rfl h0 rfl
 rw[if_neg e1]
 by_cases e2:z<0
 ·rw[if_pos (Or.inl e2)]
  simp (disch:=first|omega|exact f8|(simp only[d9]<;>omega)) only[WA,a8,b8,Nat.reduceEqDiff,Nat.reduceLT,Nat.reduceAdd,Nat.reduceBEq,Int.reduceAdd,Int.reduceSub,Int.reduceLT,Int.reduceLE,Int.reduceEq,Int.reduceNeg,↓reduceIte,reduceCtorEq,List.replicate,c36]
  all_goals try (exfalso;omega)
  exact b9 rfl h0 rfl
 by_cases e3:200<z
 ·rw[if_pos (Or.inr e3)]
  simp (disch:=first|omega|exact f8|(simp only[d9]<;>omega)) only[WA,a8,b8,Nat.reduceEqDiff,Nat.reduceLT,Nat.reduceAdd,Nat.reduceBEq,Int.reduceAdd,Int.reduceSub,Int.reduceLT,Int.reduceLE,Int.reduceEq,Int.reduceNeg,↓reduceIte,reduceCtorEq,List.replicate,c36]
  all_goals try (exfalso;omega)
  exact b9 rfl h0 rfl
 rw[if_neg (fun h=>h.elim e2 e3)]
 have hct:=VZ w (n+7) s k hs z R
 simp (disch:=first|omega|exact f8|fail) only[WA,a8,b8,Nat.reduceEqDiff,Nat.reduceLT,Nat.reduceAdd,Nat.reduceBEq,Int.reduceAdd,Int.reduceSub,Int.reduceLT,Int.reduceLE,Int.reduceEq,Int.reduceNeg,↓reduceIte,reduceCtorEq,List.replicate,c36]
 all_goals try (exfalso;omega)
 refine aQ (by rw[hC];exact hct) rfl rfl rfl ?_
 simp (disch:=fail) only[WA,a8,b8,Nat.reduceEqDiff,Nat.reduceLT,Nat.reduceAdd,Nat.reduceBEq,Int.reduceAdd,Int.reduceSub,Int.reduceLT,Int.reduceLE,Int.reduceEq,Int.reduceNeg,↓reduceIte,reduceCtorEq,List.replicate,oH,rP,PZ,oE,R5,bS]
 refine aD0 (fr':= [(2,.ptr 1 0),(18,.fn 53 [] [.ptr 0 0])]) (st':=⟨[(1,.box 24 1 [iN 0]),(0,jB z s k R)],2,0⟩) (o7 [(1,1),(2,0)] 2 h0 rfl rfl rfl rfl) ?_
 refine SW hC rfl rfl rfl (Nat.le_of_ble_eq_true rfl) rfl (Nat.zero_le _) fun C2 h2n h2r h2p h2o hT=>?_
 simp (disch:=first|exact f8|fail) only[WA,a8,b8,Nat.reduceEqDiff,Nat.reduceLT,Nat.reduceAdd,Nat.reduceBEq,Int.reduceAdd,Int.reduceSub,Int.reduceLT,Int.reduceLE,Int.reduceEq,Int.reduceNeg,↓reduceIte,reduceCtorEq,List.replicate,c53]
 refine n9 (fun m fr st=>∃ (j:Nat) (y:Int),m=R.length - j∧j≤R.length∧T8 z R=T8 y (R.drop j)∧fr= [(0,.tok 2),(3,iN y),(12,.sl s R.length (M1 k R)),(13,iN R.length),(14,iN j)]∧st=⟨bV5 z s k R 0,3,0⟩) R.length ?_ ⟨_,_,.refl _ _,0,z,by omega,Nat.zero_le _,rfl,rfl,rfl⟩ ?_
 ·rw[h2r];unfold x8;omega
 rintro m fr st ⟨j,y,rfl,hj,hinv,rfl,rfl⟩
 by_cases hlt:j<R.length
 case neg=>
  have:j=R.length:=by omega
  subst this
  rw[hinv,List.drop_length,T8]
  simp (disch:=first|omega|exact f8|fail) only[WA,a8,b8,Nat.reduceEqDiff,Nat.reduceLT,Nat.reduceAdd,Nat.reduceBEq,Int.reduceAdd,Int.reduceSub,Int.reduceLT,Int.reduceLE,Int.reduceEq,Int.reduceNeg,↓reduceIte,reduceCtorEq,List.replicate,HQ]
  all_goals try (exfalso;omega)
  refine ⟨fun i h=>(by cases h),Nat.zero_le _,0,.normal,rfl,rfl,?_⟩
  simp (disch:=first|exact f8|(simp only[d9]<;>omega)) only[WA,a8,b8,Nat.reduceEqDiff,Nat.reduceLT,Nat.reduceAdd,Nat.reduceBEq,Int.reduceAdd,Int.reduceSub,Int.reduceLT,Int.reduceLE,Int.reduceEq,Int.reduceNeg,↓reduceIte,reduceCtorEq,List.replicate]
  exact b9 rfl h0 rfl
 have hag:=jW k R j hlt
 have hk:=hK.at hlt
 have hu:=aW0 w n k R[j]!.2 hk.2 hk.1
 have hm:=aL2 w n k R[j]!.2 hk.2 hk.1
 rw[mU hlt] at hinv
 unfold rT at hu
 unfold gZ at hm
 generalize hr:R[j]! =r at*
 obtain ⟨b,L⟩:=r
 simp only at hu hm hk
 by_cases q1:J5 L=0
 case neg=>
  rw[hinv,jU q1]
  rw[if_neg q1] at hu
  simp only
  generalize J5 L=E at*
  simp (disch:=first|omega|exact f8|(simp only[d9]<;>omega)) only[WA,a8,b8,Nat.reduceEqDiff,Nat.reduceLT,Nat.reduceAdd,Nat.reduceBEq,Int.reduceAdd,Int.reduceSub,Int.reduceLT,Int.reduceLE,Int.reduceEq,Int.reduceNeg,↓reduceIte,reduceCtorEq,List.replicate,HQ,hag]
  all_goals try (exfalso;omega)
  refine a9 ((hu.flat rfl rfl).env h2p h2o) ?_
  simp (disch:=first|exact f8|(simp only[d9]<;>omega)) only[WA,a8,b8,Nat.reduceEqDiff,Nat.reduceLT,Nat.reduceAdd,Nat.reduceBEq,Int.reduceAdd,Int.reduceSub,Int.reduceLT,Int.reduceLE,Int.reduceEq,Int.reduceNeg,↓reduceIte,reduceCtorEq,List.replicate,q1]
  refine hT _ _ _ (oS z s k R _ j y 0 E _ (fun h=>absurd h q1) fun _=>?_)
  simp (disch:=first|exact f8|fail) only[WA,a8,b8,Nat.reduceEqDiff,Nat.reduceLT,Nat.reduceAdd,Nat.reduceBEq,Int.reduceAdd,Int.reduceSub,Int.reduceLT,Int.reduceLE,Int.reduceEq,Int.reduceNeg,↓reduceIte,reduceCtorEq,List.replicate]
  refine ⟨fun i h=>(by cases h),Nat.zero_le _,2,.ret,rfl,rfl,?_⟩
  simp (disch:=fail) only[WA,a8,b8,Nat.reduceEqDiff,Nat.reduceLT,Nat.reduceAdd,Nat.reduceBEq,Int.reduceAdd,Int.reduceSub,Int.reduceLT,Int.reduceLE,Int.reduceEq,Int.reduceNeg,↓reduceIte,reduceCtorEq,List.replicate]
  exact b9 rfl h0 rfl
 rw[if_pos q1] at hu hm
 by_cases q2:E8 E3 L=y
 case neg=>
  rw[hinv,jV q1 q2]
  generalize E8 E3 L=U at*
  simp (disch:=first|omega|exact f8|(simp only[d9]<;>omega)) only[WA,a8,b8,Nat.reduceEqDiff,Nat.reduceLT,Nat.reduceAdd,Nat.reduceBEq,Int.reduceAdd,Int.reduceSub,Int.reduceLT,Int.reduceLE,Int.reduceEq,Int.reduceNeg,↓reduceIte,reduceCtorEq,List.replicate,HQ,hag]
  all_goals try (exfalso;omega)
  refine a9 ((hu.flat rfl rfl).env h2p h2o) ?_
  simp (disch:=first|exact f8|(simp only[d9]<;>omega)) only[WA,a8,b8,Nat.reduceEqDiff,Nat.reduceLT,Nat.reduceAdd,Nat.reduceBEq,Int.reduceAdd,Int.reduceSub,Int.reduceLT,Int.reduceLE,Int.reduceEq,Int.reduceNeg,↓reduceIte,reduceCtorEq,List.replicate,q2]
  refine hT _ _ _ (oS z s k R _ j y 0 26 _ (fun h=>absurd h (by decide)) fun _=>?_)
  simp (disch:=first|exact f8|fail) only[WA,a8,b8,Nat.reduceEqDiff,Nat.reduceLT,Nat.reduceAdd,Nat.reduceBEq,Int.reduceAdd,Int.reduceSub,Int.reduceLT,Int.reduceLE,Int.reduceEq,Int.reduceNeg,↓reduceIte,reduceCtorEq,List.replicate]
  refine ⟨fun i h=>(by cases h),Nat.zero_le _,2,.ret,rfl,rfl,?_⟩
  simp (disch:=fail) only[WA,a8,b8,Nat.reduceEqDiff,Nat.reduceLT,Nat.reduceAdd,Nat.reduceBEq,Int.reduceAdd,Int.reduceSub,Int.reduceLT,Int.reduceLE,Int.reduceEq,Int.reduceNeg,↓reduceIte,reduceCtorEq,List.replicate]
  exact b9 rfl h0 rfl
 rw[nY q1 q2] at hinv
 generalize E8 E3 L=U at*
 subst q2
 simp (disch:=first|omega|exact f8|(simp only[d9]<;>omega)) only[WA,a8,b8,Nat.reduceEqDiff,Nat.reduceLT,Nat.reduceAdd,Nat.reduceBEq,Int.reduceAdd,Int.reduceSub,Int.reduceLT,Int.reduceLE,Int.reduceEq,Int.reduceNeg,↓reduceIte,reduceCtorEq,List.replicate,HQ,hag]
 all_goals try (exfalso;omega)
 refine a9 ((hu.flat rfl rfl).env h2p h2o) ?_
 simp (disch:=first|exact f8|fail) only[WA,a8,b8,Nat.reduceEqDiff,Nat.reduceLT,Nat.reduceAdd,Nat.reduceBEq,Int.reduceAdd,Int.reduceSub,Int.reduceLT,Int.reduceLE,Int.reduceEq,Int.reduceNeg,↓reduceIte,reduceCtorEq,List.replicate]
 refine a9 ((hm.flat rfl rfl).env h2p h2o) ?_
 simp (disch:=first|exact f8|(simp only[d9]<;>omega)) only[WA,a8,b8,Nat.reduceEqDiff,Nat.reduceLT,Nat.reduceAdd,Nat.reduceBEq,Int.reduceAdd,Int.reduceSub,Int.reduceLT,Int.reduceLE,Int.reduceEq,Int.reduceNeg,↓reduceIte,reduceCtorEq,List.replicate]
 refine hT _ _ _ (oS z s k R _ j U (E8 H9 L) 0 _ (fun _=>?_) (fun h=>absurd rfl h))
 simp (disch:=first|omega|exact f8|fail) only[WA,a8,b8,Nat.reduceEqDiff,Nat.reduceLT,Nat.reduceAdd,Nat.reduceBEq,Int.reduceAdd,Int.reduceSub,Int.reduceLT,Int.reduceLE,Int.reduceEq,Int.reduceNeg,↓reduceIte,reduceCtorEq,List.replicate]
 exact ⟨R.length - (j+1),_,_,by omega,bR [(2,2),(1,1),(0,0)] 3 (by rw[h2n];exact Nat.le_refl _) rfl (by rw[h2n];rfl) rfl rfl,j+1,E8 H9 L,rfl,by omega,hinv,rfl,rfl⟩
end
theorem dU (nx t e b n c o k m:Nat) (base:YQ) (new:List D) (fz:List Nat) (hm:m ≠ 0) (hc:n+m≤c):Z0 nx t e b n c o k base (some (m,new,fz))=none:=by
 have h:Nat.blt c (n+m)=false:=by rw[← Bool.not_eq_true,Nat.blt_eq];omega
 simp only[Z0,h,Bool.and_false,Bool.false_and,Bool.false_eq_true,if_false]
 rw[if_neg (by rw[j7];exact hm)]
 split<;>rfl
theorem dV (H:D6) (nx ro t e b o k n c t' e' m:Nat) (g:Bool) (l new:List D) (hro:ro≤o) (he:e ≠ 0) (hm:m ≠ 0) (hok:P1 new=true) (hle:n+m≤c) (hc:c≤1099511627776) (h2:(n+m)*b≤1099511627776) (hl:k+n*e+new.length≤l.length):
  Z1 ⟨H,nx,ro⟩ t e b o k n c (some (.row t' e' g false l)) (some (m,new,[]))=some (.ref o k (n+m) c,⟨B5 H o (.row t' e' g false (l.take (k+n*e)++new++l.drop (k+n*e+new.length))),nx,ro⟩):=by
 simp only[Z1,hok]
 have hb:Nat.ble ro o=true:=by rw[Nat.ble_eq];exact hro
 have h3:Nat.ble (n+m) r5=true:=by rw[Nat.ble_eq];unfold r5;omega
 have h4:Nat.ble ((n+m)*b) r5=true:=by rw[Nat.ble_eq];exact h2
 have h5:Nat.blt c t8=true:=by rw[Nat.blt_eq];unfold t8;omega
 have h6:Nat.ble (n+m) c=true:=by rw[Nat.ble_eq];exact hle
 rw[if_pos (by simp[vE.2 he,B0]),if_neg (by simp[hb,h3,h4,vE.2 hm]),if_pos h5,if_pos (by rw[h6];simp[m8])]
 rw[bF _ _ _ hl,s5]
 rfl
def qA:q8:=⟨0,false,0,0⟩
abbrev z4:List Value:= [.int .u8 0,.bool false,.int .i64 0,.int .i64 0]
theorem aJ2 (m:Nat):lU (rep z4 m)=v8 (List.replicate m qA):=by
 induction m with
 |zero=>rfl
 |succ m ih=>
  have e1:lU (rep z4 (m+1))=lU z4++lU (rep z4 m):=by simp[rep,lU]
  rw[e1,ih,List.replicate_succ]
  simp[v8,lU,qA]
theorem BR (m:Nat):(rep z4 m).all D5=true:=by
 induction m with
 |zero=>rfl
 |succ m ih=>
  have e:rep z4 (m+1)=z4++rep z4 m:=rfl
  rw[e,List.all_append,ih];rfl
theorem FG (nx t c:Nat) (hc:c≤1000000):bC nx t 4 24 z4 (.sc (.int .i64 0)) (.sc (.int .i64 c))=some (.ref nx 0 0 c,some (.row t 4 false false (v8 (List.replicate c qA))),[]):=by
 simp only[bC]
 rw[if_pos ⟨by omega,by omega,by unfold r5;omega,by unfold r5;omega,by rw[Int.toNat_natCast];exact BR c⟩,Int.toNat_natCast,aJ2]
 rfl
theorem kS (nx t c:Nat) (hc:c≤1000000):bC nx t 4 24 z4 (.sc (.int .i64 c)) (.sc (.int .i64 c))=some (.ref nx 0 c c,some (.row t 4 false false (v8 (List.replicate c qA))),[]):=by
 simp only[bC]
 rw[if_pos ⟨by omega,by omega,by unfold r5;omega,by unfold r5;omega,by rw[Int.toNat_natCast];exact BR c⟩,Int.toNat_natCast,aJ2]
theorem aF9 {x:q8} (h:bU x):pP x=⟨x.kind,fS x.kind && !x.purl,if 0<WI x.kind then x.b else x.a,if 0<WI x.kind then x.a else x.b⟩:=by
 have hb:=h.bounds
 obtain ⟨k,p,a,b⟩:=x
 simp only at hb
 have hf:=(CO (x:=⟨k,p,a,b⟩) hb.1 hb.2.1).1 h
 simp only at hf
 unfold pP
 simp only
 rcases (by omega:k=1∨k=2∨k=3∨k=4∨k=5∨k=6∨k=7∨k=8∨k=9∨k=10) with rfl|rfl|rfl|rfl|rfl|rfl|rfl|rfl|rfl|rfl
 all_goals
  cases p<;>simp[fS,WI] at hf ⊢
theorem WJ (k:Nat):WI k=0∨WI k=6:=by
 unfold WI
 split
 ·exact .inr rfl
 ·exact .inr rfl
 ·exact .inl rfl
abbrev bI7 (s:Nat) (L:List q8) (A:List D) (j c:Nat):D6:= [(3,bV 0),(2,.box 50 1 [tS s L]),(1,.box 50 1 [.ref 0 0 j c]),(0,.row 53 4 false false A)]
section
variable (w:World) (n:Nat)
theorem bE0 {C:C6} {Q:V→n4→Prop} (hC:C.E=EN w (n+1)) (s:Nat) (L:List q8) (H:D6) (nx:Nat) (hq:Q (.fn 66 [] [.ptr nx 0]) ⟨(nx,.box 50 1 [tS s L])::H,nx+1,0⟩):eZ C 58 [tS s L] ⟨H,nx,0⟩ Q:=by
 refine RK hC rfl rfl (fun _ _=>rfl) (Nat.le_of_ble_eq_true rfl) hq fun C' hC' hn=>?_
 simp (disch:=first|exact f8|fail) only[WA,a8,b8,Nat.reduceEqDiff,Nat.reduceLT,Nat.reduceAdd,Nat.reduceBEq,Int.reduceAdd,Int.reduceSub,Int.reduceLT,Int.reduceLE,Int.reduceEq,Int.reduceNeg,↓reduceIte,reduceCtorEq,List.replicate,c58,aV]
 exact .refl _ _
theorem XW {E:D9} (hE:E=EN w (n+2)) (s:Nat) (L:List q8) (A:List D) (j c:Nat) (i:Int) (x:q8) (hx:bU x) (hA:A.length=c*4) (hj:j<c) (hc:c≤1000000) (v1 v2:V) (Q2:V→n4→Prop)
  (hgo:Q2 (.sc (.bool true)) ⟨bI7 s L (A.take (j*4)++ [.sc (.int .u8 (pP x).kind),.sc (.bool (pP x).purl),.sc (.int .i64 (pP x).a),.sc (.int .i64 (pP x).b)]++A.drop (j*4+4)) (j+1) c,4,0⟩):
  DK E ZB ZC [(2,v1),(3,v2),(5,.ptr 1 0)] [20,21] 3 [iN i,qC x] ⟨bI7 s L A j c,4,0⟩ Q2:=by
 refine ⟨Nat.zero_le _,rfl,(by show (3:Nat)<4;decide),_,rfl,fun C4 h4c h4n=>?_⟩
 have hb:=hx.bounds
 rw[aF9 hx] at hgo
 have hfm:=EP w (n+1) x.kind hb.1 hb.2.1
 obtain ⟨k,p,a,b⟩:=x
 simp only at hb hfm hgo
 unfold Y7 at hfm
 simp only[List.map_cons,List.map_nil] at hfm
 generalize fS k=fs at*
 generalize fL k=fl at*
 have hb1:=WJ k
 generalize WI k=fb at*
 simp (disch:=first|exact f8|(simp only[d9]<;>omega)) only[WA,a8,b8,Nat.reduceEqDiff,Nat.reduceLT,Nat.reduceAdd,Nat.reduceBEq,Int.reduceAdd,Int.reduceSub,Int.reduceLT,Int.reduceLE,Int.reduceEq,Int.reduceNeg,↓reduceIte,reduceCtorEq,List.replicate,ZB]
 refine ⟨trivial,Nat.zero_le _,trivial,?_⟩
 simp (disch:=first|exact f8|fail) only[WA,a8,b8,Nat.reduceEqDiff,Nat.reduceLT,Nat.reduceAdd,Nat.reduceBEq,Int.reduceAdd,Int.reduceSub,Int.reduceLT,Int.reduceLE,Int.reduceEq,Int.reduceNeg,↓reduceIte,reduceCtorEq,List.replicate,ZC]
 refine a9 (by rw[h4c,hE];exact hfm.flat rfl rfl) ?_
 rcases hb1 with rfl|rfl<;>cases fs
 ·simp (disch:=first|omega|exact f8|(simp only[d9]<;>omega)) only[WA,a8,b8,Nat.reduceEqDiff,Nat.reduceLT,Nat.reduceAdd,Nat.reduceBEq,Int.reduceAdd,Int.reduceSub,Int.reduceLT,Int.reduceLE,Int.reduceEq,Int.reduceNeg,↓reduceIte,reduceCtorEq,List.replicate,dJ,dU,dV,Nat.zero_add,tn1,gt_iff_lt,Int.lt_irrefl,decide_false]
  all_goals try (exfalso;omega)
  refine ⟨Nat.zero_le _,trivial,_,bR [(3,3),(2,2),(1,1),(0,0)] 4 (by rw[h4n];exact Nat.le_refl _) rfl (by rw[h4n];rfl) rfl rfl,?_⟩
  exact hgo
 ·simp (disch:=first|omega|exact f8|(simp only[d9]<;>omega)) only[WA,a8,b8,Nat.reduceEqDiff,Nat.reduceLT,Nat.reduceAdd,Nat.reduceBEq,Int.reduceAdd,Int.reduceSub,Int.reduceLT,Int.reduceLE,Int.reduceEq,Int.reduceNeg,↓reduceIte,reduceCtorEq,List.replicate,dJ,dU,dV,Nat.zero_add,tn1,gt_iff_lt,Int.lt_irrefl,decide_false]
  all_goals try (exfalso;omega)
  refine ⟨Nat.zero_le _,trivial,_,bR [(3,3),(2,2),(1,1),(0,0)] 4 (by rw[h4n];exact Nat.le_refl _) rfl (by rw[h4n];rfl) rfl rfl,?_⟩
  exact hgo
 ·simp (disch:=first|omega|exact f8|(simp only[d9]<;>omega)) only[WA,a8,b8,Nat.reduceEqDiff,Nat.reduceLT,Nat.reduceAdd,Nat.reduceBEq,Int.reduceAdd,Int.reduceSub,Int.reduceLT,Int.reduceLE,Int.reduceEq,Int.reduceNeg,↓reduceIte,reduceCtorEq,List.replicate,dJ,dU,dV,Nat.zero_add,tn1,gt_iff_lt,Int.lt_irrefl,decide_false]
  all_goals try (exfalso;omega)
  refine ⟨Nat.zero_le _,trivial,_,bR [(3,3),(2,2),(1,1),(0,0)] 4 (by rw[h4n];exact Nat.le_refl _) rfl (by rw[h4n];rfl) rfl rfl,?_⟩
  exact hgo
 ·simp (disch:=first|omega|exact f8|(simp only[d9]<;>omega)) only[WA,a8,b8,Nat.reduceEqDiff,Nat.reduceLT,Nat.reduceAdd,Nat.reduceBEq,Int.reduceAdd,Int.reduceSub,Int.reduceLT,Int.reduceLE,Int.reduceEq,Int.reduceNeg,↓reduceIte,reduceCtorEq,List.replicate,dJ,dU,dV,Nat.zero_add,tn1,gt_iff_lt,Int.lt_irrefl,decide_false]
  all_goals try (exfalso;omega)
  refine ⟨Nat.zero_le _,trivial,_,bR [(3,3),(2,2),(1,1),(0,0)] 4 (by rw[h4n];exact Nat.le_refl _) rfl (by rw[h4n];rfl) rfl rfl,?_⟩
  exact hgo
end
theorem XO {H:D6} {o c t n:Nat} {g z:Bool} {l:List D} (h:i7 H o=some (.row t 4 g z l)) (hl:l.length=n*4):B1 H (.ref o 0 n c)=some (.sl 0 n l):=by
 simp only[B1,aL,h,Nat.zero_add,List.drop_zero]
 rw[if_pos (by omega)]
 show some (V.sl 0 n (l.take (n*4)))=_
 rw[List.take_of_length_le (by omega)]
theorem aM1 (A:List q8) (y:q8) (c:Nat) (h:A.length<c):
  (v8 (A++List.replicate (c - A.length) qA)).take (A.length*4)++ [.sc (.int .u8 y.kind),.sc (.bool y.purl),.sc (.int .i64 y.a),.sc (.int .i64 y.b)]++(v8 (A++List.replicate (c - A.length) qA)).drop (A.length*4+4)=v8 ((A++ [y])++List.replicate (c - (A.length+1)) qA):=by
 have e:c - A.length=(c - (A.length+1))+1:=by omega
 rw[e,List.replicate_succ,iJ,List.take_left' (v3 A),← List.drop_drop,List.drop_left' (v3 A),iJ,qB]
 rfl
def aM3 (L:List q8):List q8 × Int:=if J5 L=0 then (N1 L,0) else ([],J5 L)
abbrev sfV (p:List q8 × Int):V:= .tup [tS 3 p.1,iN p.2]
section
variable (w:World) (n:Nat)
theorem bI8 (s:Nat) (hs:s ≠ 1) (L:List q8) (hL:L.length≤140737488351232) (hK:GQ L):n5 (EN w (n+7)) 48 [tS s L] (sfV (aM3 L)) ⟨[],0,0⟩:=by
 have ha:=PY w n s L hL hK
 unfold aM3
 refine N2 rfl rfl (fun _ _=>rfl) (Nat.le_of_ble_eq_true rfl) (k9 w) jT rfl fun C hC h0=>?_
 by_cases e:J5 L=0
 case neg=>
  rw[if_neg e]
  generalize J5 L=E at*
  simp (disch:=first|exact f8|fail) only[WA,a8,b8,Nat.reduceEqDiff,Nat.reduceLT,Nat.reduceAdd,Nat.reduceBEq,Int.reduceAdd,Int.reduceSub,Int.reduceLT,Int.reduceLE,Int.reduceEq,Int.reduceNeg,↓reduceIte,reduceCtorEq,List.replicate,c48]
  refine a9 (by rw[hC];exact ha.flat rfl rfl) ?_
  simp (disch:=first|exact f8|(simp only[d9]<;>omega)) only[WA,a8,b8,Nat.reduceEqDiff,Nat.reduceLT,Nat.reduceAdd,Nat.reduceBEq,Int.reduceAdd,Int.reduceSub,Int.reduceLT,Int.reduceLE,Int.reduceEq,Int.reduceNeg,↓reduceIte,reduceCtorEq,List.replicate,e]
  exact O6 h0 rfl
 rw[if_pos e]
 rw[e] at ha
 obtain ⟨l1,l2,_⟩:=iV e
 have hmk:=fun nx t=>FG nx t L.length (by omega)
 have hil:=v3 L
 simp (disch:=first|exact f8|fail) only[WA,a8,b8,Nat.reduceEqDiff,Nat.reduceLT,Nat.reduceAdd,Nat.reduceBEq,Int.reduceAdd,Int.reduceSub,Int.reduceLT,Int.reduceLE,Int.reduceEq,Int.reduceNeg,↓reduceIte,reduceCtorEq,List.replicate,c48]
 refine a9 (by rw[hC];exact ha.flat rfl rfl) ?_
 simp (disch:=first|exact f8|(simp only[d9]<;>omega)) only[WA,a8,b8,Nat.reduceEqDiff,Nat.reduceLT,Nat.reduceAdd,Nat.reduceBEq,Int.reduceAdd,Int.reduceSub,Int.reduceLT,Int.reduceLE,Int.reduceEq,Int.reduceNeg,↓reduceIte,reduceCtorEq,List.replicate,hmk]
 refine bE0 w (n+5) hC s L _ _ ?_
 simp (disch:=fail) only[WA,a8,b8,Nat.reduceEqDiff,Nat.reduceLT,Nat.reduceAdd,Nat.reduceBEq,Int.reduceAdd,Int.reduceSub,Int.reduceLT,Int.reduceLE,Int.reduceEq,Int.reduceNeg,↓reduceIte,reduceCtorEq,List.replicate]
 refine SW hC rfl rfl rfl (Nat.le_of_ble_eq_true rfl) rfl (Nat.zero_le _) fun C2 h2n h2r h2p h2o hT=>?_
 simp (disch:=first|omega|exact f8|fail) only[WA,a8,b8,Nat.reduceEqDiff,Nat.reduceLT,Nat.reduceAdd,Nat.reduceBEq,Int.reduceAdd,Int.reduceSub,Int.reduceLT,Int.reduceLE,Int.reduceEq,Int.reduceNeg,↓reduceIte,reduceCtorEq,List.replicate,c66]
 refine n9 (fun m fr st=>∃ (j:Nat),m=L.length - j∧j≤L.length∧fr= [(0,.tok 3),(1,.ptr 2 0),(3,iN ((L.length:Int) - 1 - j))]∧st=⟨bI7 s L (v8 ((L.reverse.take j).map pP++List.replicate (L.length - j) qA)) j L.length,4,0⟩) L.length ?_ ⟨_,_,.refl _ _,0,by omega,Nat.zero_le _,?_,rfl⟩ ?_
 ·rw[h2r];unfold x8;omega
 ·simp
 rintro m fr st ⟨j,rfl,hj,rfl,rfl⟩
 by_cases hlt:j<L.length
 case neg=>
  have:j=L.length:=by omega
  subst this
  have e:(L.reverse.take L.length).map pP=N1 L:=by unfold N1;rw[List.take_of_length_le (by simp)]
  rw[e,Nat.sub_self,List.replicate_zero,List.append_nil]
  have hl:=v3 (N1 L)
  rw[X6] at hl
  have hl':=X6 L
  generalize N1 L=T at*
  simp (disch:=first|omega|exact f8|fail) only[WA,a8,b8,Nat.reduceEqDiff,Nat.reduceLT,Nat.reduceAdd,Nat.reduceBEq,Int.reduceAdd,Int.reduceSub,Int.reduceLT,Int.reduceLE,Int.reduceEq,Int.reduceNeg,↓reduceIte,reduceCtorEq,List.replicate,ZG]
  all_goals try (exfalso;omega)
  refine ⟨fun i h=>(by cases h),Nat.zero_le _,0,.normal,rfl,rfl,?_⟩
  simp (disch:=first|exact f8|fail) only[WA,a8,b8,Nat.reduceEqDiff,Nat.reduceLT,Nat.reduceAdd,Nat.reduceBEq,Int.reduceAdd,Int.reduceSub,Int.reduceLT,Int.reduceLE,Int.reduceEq,Int.reduceNeg,↓reduceIte,reduceCtorEq,List.replicate]
  show L2 _ _ _ [(0,.tup [.sl 3 T.length (v8 T),iN 0])] _
  rw[hl']
  exact iQ (XO rfl hl) rfl (.inl (by decide)) h0 rfl
 have hst:=oC L j hlt
 have hag:=Q9 L (L.length - 1 - j) (by omega)
 have hdl:((L.reverse.take j).map pP).length=j:=by rw[List.length_map,List.length_take,List.length_reverse];omega
 have hix:((L.length:Int) - 1 - j)=((L.length - 1 - j:Nat):Int):=by omega
 have hin:((L.length:Int) - 1 - ((j+1:Nat):Int))=((L.length - 1 - j:Nat):Int) - 1:=by omega
 have hx:bU L[L.length - 1 - j]! :=P2.1 (List.all_eq_true.1 l2 _ (by rw[getElem!_pos L _ (by omega)];exact List.getElem_mem _))
 have hrm:=aM1 ((L.reverse.take j).map pP) (pP L[L.length - 1 - j]!) L.length (by omega)
 rw[← hst,hdl] at hrm
 have hAl:(v8 ((L.reverse.take j).map pP++List.replicate (L.length - j) qA)).length=L.length*4:=by rw[v3,List.length_append,hdl,List.length_replicate];congr 1;omega
 have hrd:=XW w (n+4) (E:=C.E) hC s L (v8 ((L.reverse.take j).map pP++List.replicate (L.length - j) qA)) j L.length ((L.length - 1 - j:Nat):Int) L[L.length - 1 - j]! hx hAl hlt (by omega) (.sc (.slice none 0 0)) (iN 0)
 rw[hrm] at hrd
 rw[hix]
 have hi1:L.length - 1 - j<L.length:=by omega
 generalize L[L.length - 1 - j]! =x at*
 generalize hii:L.length - 1 - j=i at*
 simp (disch:=first|omega|exact f8|fail) only[WA,a8,b8,Nat.reduceEqDiff,Nat.reduceLT,Nat.reduceAdd,Nat.reduceBEq,Int.reduceAdd,Int.reduceSub,Int.reduceLT,Int.reduceLE,Int.reduceEq,Int.reduceNeg,↓reduceIte,reduceCtorEq,List.replicate,ZG,hag]
 all_goals try (exfalso;omega)
 refine hT _ _ _ (hrd _ ?_)
 simp (disch:=first|omega|exact f8|fail) only[WA,a8,b8,Nat.reduceEqDiff,Nat.reduceLT,Nat.reduceAdd,Nat.reduceBEq,Int.reduceAdd,Int.reduceSub,Int.reduceLT,Int.reduceLE,Int.reduceEq,Int.reduceNeg,↓reduceIte,reduceCtorEq,List.replicate]
 exact ⟨L.length - (j+1),_,_,by omega,.refl _ _,j+1,rfl,by omega,by rw[hin],rfl⟩
end
theorem BX:∀ {R:List (Bool × List q8)} {z:Int},T8 z R=0→∀ r ∈ R,J5 r.2=0
 | [],_,_,r,h=>by cases h
 |q::R,z,h,r,hr=>by
  by_cases h1:J5 q.2=0
  case neg=>rw[jU h1] at h;exact absurd h h1
  by_cases h2:E8 E3 q.2=z
  case neg=>rw[jV h1 h2] at h;cases h
  rw[nY h1 h2] at h
  rcases List.mem_cons.1 hr with rfl|h3
  ·exact h1
  ·exact BX h r h3
theorem eC {c:QS} (h:fV c=0):c.2.length≤100∧0≤c.1∧c.1≤200∧T8 c.1 c.2=0:=by
 unfold fV at h
 by_cases h1:100<c.2.length
 ·rw[if_pos h1] at h;cases h
 rw[if_neg h1] at h
 by_cases h2:c.1<0∨200<c.1
 ·rw[if_pos h2] at h;cases h
 rw[if_neg h2] at h
 exact ⟨by omega,by omega,by omega,h⟩
theorem ZO {c:QS} (h:fV c=0) {i:Nat} (hi:i<c.2.length):J5 c.2[i]!.2=0:=BX (eC h).2.2.2 _ (by rw[getElem!_pos c.2 i hi];exact List.getElem_mem hi)
section
variable (w:World) (n:Nat)
theorem bE5 (s k:Nat) (hs:s ≠ 1) (hk1:k ≠ 1) (z:Int) (R:List (Bool × List q8)) (hK:bT R) (i:Nat) (hi:i<R.length) (hkk:k=2∨k=0∨0<R[i]!.2.length) (hck:fV (z,R)=0):n5 (EN w (n+10)) 38 [cM s k (z,R),iN i] (sfV (H0 R[i]!,0)) ⟨[],0,0⟩:=by
 have hil:=E6 k R
 have hR:=(eC hck).1
 simp only at hR
 have hcp:=zI w n s k hs z R (by omega) hK
 rw[hck] at hcp
 have h0r:=ZO hck hi
 simp only at h0r
 obtain ⟨l1,l2,_⟩:=iV h0r
 have hkr:=hK.at hi
 have a0:=BZ k R i hi
 have a1:=jX k R i hi
 generalize R[i]! =r at*
 obtain ⟨b,L⟩:=r
 simp only at*
 have ht:=bI8 w (n+2) k hk1 L hkr.2 hkr.1
 have hcl:=aK7 w (n+8) k L (by omega) hkk
 unfold aM3 at ht
 rw[if_pos h0r] at ht
 refine N2 rfl rfl (fun _ _=>rfl) (Nat.le_of_ble_eq_true rfl) (k9 w) jT rfl fun C hC h0=>?_
 unfold H0
 cases b with
 |true=>
  rw[if_pos rfl]
  simp only
  simp (disch:=first|exact f8|fail) only[WA,a8,b8,Nat.reduceEqDiff,Nat.reduceLT,Nat.reduceAdd,Nat.reduceBEq,Int.reduceAdd,Int.reduceSub,Int.reduceLT,Int.reduceLE,Int.reduceEq,Int.reduceNeg,↓reduceIte,reduceCtorEq,List.replicate,c38,a0,a1]
  refine a9 (by rw[hC];exact hcp.flat rfl rfl) ?_
  simp (disch:=first|omega|exact f8|fail) only[WA,a8,b8,Nat.reduceEqDiff,Nat.reduceLT,Nat.reduceAdd,Nat.reduceBEq,Int.reduceAdd,Int.reduceSub,Int.reduceLT,Int.reduceLE,Int.reduceEq,Int.reduceNeg,↓reduceIte,reduceCtorEq,List.replicate,a0,a1]
  all_goals try (exfalso;omega)
  refine M3 (by rw[hC];exact ht) rfl rfl (fun _=>rfl) ?_
  simp (disch:=first|exact f8|fail) only[WA,a8,b8,Nat.reduceEqDiff,Nat.reduceLT,Nat.reduceAdd,Nat.reduceBEq,Int.reduceAdd,Int.reduceSub,Int.reduceLT,Int.reduceLE,Int.reduceEq,Int.reduceNeg,↓reduceIte,reduceCtorEq,List.replicate]
  exact o7 [] 0 h0 rfl rfl rfl rfl
 |false=>
  rw[if_neg (fun h=>by cases h)]
  simp only
  simp (disch:=first|exact f8|fail) only[WA,a8,b8,Nat.reduceEqDiff,Nat.reduceLT,Nat.reduceAdd,Nat.reduceBEq,Int.reduceAdd,Int.reduceSub,Int.reduceLT,Int.reduceLE,Int.reduceEq,Int.reduceNeg,↓reduceIte,reduceCtorEq,List.replicate,c38,a0,a1]
  refine a9 (by rw[hC];exact hcp.flat rfl rfl) ?_
  simp (disch:=first|omega|exact f8|fail) only[WA,a8,b8,Nat.reduceEqDiff,Nat.reduceLT,Nat.reduceAdd,Nat.reduceBEq,Int.reduceAdd,Int.reduceSub,Int.reduceLT,Int.reduceLE,Int.reduceEq,Int.reduceNeg,↓reduceIte,reduceCtorEq,List.replicate,a0,a1]
  all_goals try (exfalso;omega)
  refine M3 (by rw[hC];exact hcl) rfl rfl (fun _=>rfl) ?_
  repeat' (first|(simp (disch:=fail) only[WA,a8,b8,Nat.reduceEqDiff,Nat.reduceLT,Nat.reduceAdd,Nat.reduceBEq,Int.reduceAdd,Int.reduceSub,Int.reduceLT,Int.reduceLE,Int.reduceEq,Int.reduceNeg,↓reduceIte,reduceCtorEq,List.replicate])|apply C3|((first|apply N9|apply D4|apply I8|apply O0|apply N8|apply I9)<;>intro _))
  exact o7 [] 0 h0 rfl rfl rfl rfl
end
theorem WS (M:List v4) (k:Nat) (hk:k≤M.length):(p8 M).take (k*7)=p8 (M.take k):=by
 have h:p8 M=p8 (M.take k)++p8 (M.drop k):=by rw[← L6,List.take_append_drop]
 rw[h,List.take_left' (by rw[l7,List.length_take];congr 1;omega)]
theorem WR (M:List v4) (k:Nat) (hk:k≤M.length):(p8 M).drop (k*7)=p8 (M.drop k):=by
 have h:p8 M=p8 (M.take k)++p8 (M.drop k):=by rw[← L6,List.take_append_drop]
 rw[h,List.drop_left' (by rw[l7,List.length_take];congr 1;omega)]
theorem JV (M:List v4) (k:Nat) (x:v4) (hk:k<M.length):(p8 M).take (k*7)++ [.sc (.int .u8 x.op),.sc (.bool x.right),.sc (.int .u8 x.bed),.sc (.int .i64 x.pos),.sc (.int .i64 x.to),.sc (.int .i64 x.car),.sc (.int .i64 x.rack)]++(p8 M).drop (k*7+7)=p8 (M.set k x):=by
 rw[WS M k (by omega),show k*7+7=(k+1)*7 by omega,WR M (k+1) (by omega),← U5,← L6,List.set_eq_take_append_cons_drop,if_pos hk]
 congr 1
 simp
def rv (L:List v4) (i:Nat):List v4:=(List.range L.length).map fun k=>if k<i∨L.length - i≤k then L[L.length - 1 - k]! else L[k]!
theorem V3 (L:List v4) (i:Nat):(rv L i).length=L.length:=by simp[rv]
theorem wJ (L:List v4) (i k:Nat) (hk:k<L.length):(rv L i)[k]! =if k<i∨L.length - i≤k then L[L.length - 1 - k]! else L[k]! :=by
 rw[getElem!_pos _ k (by rw[V3];exact hk)]
 simp[rv]
theorem aV0 (L:List v4):rv L 0=L:=N7 (V3 L 0) fun k hk=>by rw[wJ L 0 k hk,if_neg (by omega)]
theorem UK (L:List v4) (k:Nat) (hk:k<L.length):L.reverse[k]! =L[L.length - 1 - k]! :=by
 rw[getElem!_pos _ k (by simpa using hk),List.getElem_reverse,getElem!_pos L (L.length - 1 - k) (by omega)]
theorem bH7 (L:List v4) (i:Nat) (h:L.length≤2*i+1):rv L i=L.reverse:=N7 (by rw[V3];simp) fun k hk=>by
 rw[List.length_reverse] at hk
 rw[wJ L i k hk,UK L k hk]
 by_cases h1:k<i∨L.length - i≤k
 ·rw[if_pos h1]
 ·rw[if_neg h1]
  congr 1
  omega
theorem aU9 (L:List v4) (i:Nat) (h:i+i+1<L.length):((rv L i).set i L[L.length - 1 - i]!).set (L.length - 1 - i) L[i]! =rv L (i+1):=N7 (by simp[V3]) fun k hk=>by
 rw[V3] at hk
 rw[wJ L (i+1) k hk,getElem!_pos _ k (by simp[V3];exact hk),List.getElem_set,List.getElem_set]
 by_cases h1:L.length - 1 - i=k
 ·rw[if_pos h1,if_pos (by omega)]
  congr 1
  omega
 rw[if_neg h1]
 by_cases h2:i=k
 ·subst h2
  rw[if_pos rfl,if_pos (by omega)]
 rw[if_neg h2]
 have:=wJ L i k hk
 rw[getElem!_pos _ k (by rw[V3];exact hk)] at this
 rw[this]
 by_cases h3:k<i∨L.length - i≤k
 ·rw[if_pos h3,if_pos (by omega)]
 ·rw[if_neg h3,if_neg (by omega)]
section
variable (w:World) (n:Nat)
theorem XJ {C:C6} {Q:V→n4→Prop} (hC:C.E=EN w (n+1)) (L:List v4) (hL:L.length≤1000000) (H:D6) (o nx:Nat) (hq:Q (.tup []) ⟨(o,.gro 40 7 false (p8 L.reverse))::H,nx,0⟩):
  eZ C 39 [.gr 2 o L.length] ⟨(o,.gro 40 7 false (p8 L))::H,nx,0⟩ Q:=by
 refine RK hC rfl rfl (fun _ _=>rfl) (Nat.le_of_ble_eq_true rfl) hq fun C' hC' hn=>?_
 simp (disch:=first|omega|exact f8|fail) only[WA,a8,b8,Nat.reduceEqDiff,Nat.reduceLT,Nat.reduceAdd,Nat.reduceBEq,Int.reduceAdd,Int.reduceSub,Int.reduceLT,Int.reduceLE,Int.reduceEq,Int.reduceNeg,↓reduceIte,reduceCtorEq,List.replicate,c39]
 refine n9 (fun m fr st=>∃ (i:Nat),m=L.length - i∧i≤L.length∧fr= [(0,.gr 2 o L.length),(2,iN i),(3,iN ((L.length:Int) - 1 - i))]∧st=⟨(o,.gro 40 7 false (p8 (rv L i)))::H,nx,0⟩) L.length ?_ ⟨_,_,.refl _ _,0,by omega,Nat.zero_le _,by simp,by rw[aV0]⟩ ?_
 ·rw[hC',j8];unfold x8;omega
 rintro m fr st ⟨i,rfl,hi,rfl,rfl⟩
 by_cases hlt:i+i+1<L.length
 case neg=>
  rw[bH7 L i (by omega)]
  simp (disch:=first|omega|exact f8|fail) only[WA,a8,b8,Nat.reduceEqDiff,Nat.reduceLT,Nat.reduceAdd,Nat.reduceBEq,Int.reduceAdd,Int.reduceSub,Int.reduceLT,Int.reduceLE,Int.reduceEq,Int.reduceNeg,↓reduceIte,reduceCtorEq,List.replicate,YZ]
  all_goals try (exfalso;omega)
  exact .refl _ _
 have hst:=aU9 L i hlt
 have hil:=l7 (rv L i)
 have a1:=H7 (rv L i) i (by rw[V3];omega)
 have a2:=H7 (rv L i) (L.length - 1 - i) (by rw[V3];omega)
 rw[wJ L i _ (by omega),if_neg (by omega)] at a1 a2
 have p1:=JV (rv L i) i L[L.length - 1 - i]! (by rw[V3];omega)
 have p2:=JV ((rv L i).set i L[L.length - 1 - i]!) (L.length - 1 - i) L[i]! (by simp[V3];omega)
 have hil2:=l7 ((rv L i).set i L[L.length - 1 - i]!)
 rw[hst] at p2
 rw[V3] at hil
 rw[List.length_set,V3] at hil2
 have hix:((L.length:Int) - 1 - i)=((L.length - 1 - i:Nat):Int):=by omega
 have hin:((L.length:Int) - 1 - ((i+1:Nat):Int))=((L.length - 1 - i:Nat):Int) - 1:=by omega
 rw[hix]
 have hj1:L.length - 1 - i<L.length:=by omega
 have hj2:i<L.length - 1 - i:=by omega
 unfold Z6 at a1 a2
 generalize p8 ((rv L i).set i L[L.length - 1 - i]!)=B at*
 generalize p8 (rv L i)=A at*
 generalize L[L.length - 1 - i]! =y at*
 generalize L[i]! =x at*
 obtain ⟨xo,xr,xb,xp,xt,xc,xk⟩:=x
 obtain ⟨yo,yr,yb,yp,yt,yc,yk⟩:=y
 simp only[bA,List.map_cons,List.map_nil] at a1 a2 p1 p2
 generalize hjj:L.length - 1 - i=j at*
 repeat' (first|(simp (disch:=first|omega|exact f8|(simp only[d9]<;>omega)) only[WA,a8,b8,Nat.reduceEqDiff,Nat.reduceLT,Nat.reduceAdd,Nat.reduceBEq,Int.reduceAdd,Int.reduceSub,Int.reduceLT,Int.reduceLE,Int.reduceEq,Int.reduceNeg,↓reduceIte,reduceCtorEq,List.replicate,YZ,a1,a2,XX,OS,OR,p1,aL3,p2])|apply C3)
 all_goals try (exfalso;omega)
 exact ⟨L.length - (i+1),_,_,by omega,.refl _ _,i+1,rfl,by omega,by rw[hin];rfl,rfl⟩
end
def bN (b:Bool):Nat:=if b then 1 else 0
def J6 (B:List Bool):List D:=B.map fun b=> .sc (.int .u8 (bN b))
def y7 (B:List Bool) (F:List q8) (j:Nat):List Bool:=(List.range B.length).map fun k=>if k<j∧F[k]!.kind=1 then F[k]!.purl else B[k]!
def xfP (B:List Bool) (F:List q8) (k:Nat):Bool:=decide (F[k]!.kind=1) && (B[k]! !=F[k]!.purl)
def xfI (B:List Bool) (k:Nat):v4:=⟨7,false,bN B[k]!,k,k,0,0⟩
def xf (B:List Bool) (F:List q8) (j:Nat):List v4:=((List.range j).filter (xfP B F)).map (xfI B)
def rwI (odd:Bool) (B:List Bool) (F:List q8) (k:Nat):v4:=⟨if F[k]!.kind=1 then 3 else 5,odd,bN B[k]!,k,0,1,0⟩
def pU (odd:Bool) (B:List Bool) (F:List q8) (j:Nat):List v4:=(List.range j).map (rwI odd B F)
def oW (i:Nat) (L:List v4):List v4:=if i % 2=0 then L.reverse else L
def sA (i:Nat) (B:List Bool) (F:List q8):List v4:=xf B F F.length++oW i (pU (decide (i % 2=1)) (y7 B F F.length) F F.length)
def rN:Nat→List Bool→List (Bool × List q8)→List v4
 |_,_,[]=> []
 |i,B,r::R=>sA i B (H0 r)++rN (i+1) (y7 B (H0 r) (H0 r).length) R
def aZ9 (k:Nat):v4:=⟨3,true,0,k,0,1,0⟩
def in1:v4:=⟨1,false,0,0,0,1,0⟩
def H4 (k:Nat):List v4:=in1::(List.range k).map aZ9
def Y6 (z:Nat) (R:List (Bool × List q8)):List v4:=H4 z++rN 0 (List.replicate z false) R
def mQ (c:QS):List v4 × Int:=if fV c ≠ 0 then ([],fV c) else if FO c=true then (if 2000<(Y6 c.1.toNat c.2).length then ([],4) else (Y6 c.1.toNat c.2,0)) else ([],2)
theorem F1 (B:List Bool) (F:List q8) (j:Nat):(y7 B F j).length=B.length:=by simp[y7]
theorem S8 (B:List Bool) (F:List q8) (j k:Nat) (hk:k<B.length):(y7 B F j)[k]! =if k<j∧F[k]!.kind=1 then F[k]!.purl else B[k]! :=by
 rw[getElem!_pos _ k (by rw[F1];exact hk)]
 simp[y7]
theorem eH {a l:List Bool} (h:a.length=l.length) (ha:∀ j,j<l.length→a[j]! =l[j]!):a=l:=by
 apply List.ext_getElem h
 intro j h1 h2
 have:=ha j h2
 rwa [getElem!_pos a j h1,getElem!_pos l j h2] at this
theorem yY (B:List Bool) (F:List q8):y7 B F 0=B:=eH (F1 B F 0) fun k hk=>by rw[S8 B F 0 k hk,if_neg (by omega)]
theorem UO (B:List Bool) (j k:Nat) (b:Bool) (hk:k<B.length):(B.set j b)[k]! =if j=k then b else B[k]! :=by
 rw[getElem!_pos _ k (by simpa using hk),List.getElem_set,getElem!_pos B k hk]
theorem yX (B:List Bool) (F:List q8) (j:Nat) (hj:j<B.length) (h:F[j]!.kind=1):y7 B F (j+1)=(y7 B F j).set j F[j]!.purl:=eH (by simp[F1]) fun k hk=>by
 have hk':k<B.length:=by simpa [F1] using hk
 rw[S8 B F (j+1) k hk',UO _ _ _ _ (by rw[F1];exact hk'),S8 B F j k hk']
 by_cases e:j=k
 ·subst e;rw[if_pos rfl,if_pos ⟨by omega,h⟩]
 ·rw[if_neg e]
  by_cases h2:k<j∧F[k]!.kind=1
  ·rw[if_pos h2,if_pos ⟨by omega,h2.2⟩]
  ·rw[if_neg h2,if_neg (fun h3=>h2 ⟨by omega,h3.2⟩)]
theorem oN (B:List Bool) (F:List q8) (j:Nat) (hj:j<B.length) (h:F[j]!.kind ≠ 1):y7 B F (j+1)=y7 B F j:=eH (by simp[F1]) fun k hk=>by
 have hk':k<B.length:=by simpa [F1] using hk
 rw[S8 B F (j+1) k hk',S8 B F j k hk']
 by_cases h2:k<j∧F[k]!.kind=1
 ·rw[if_pos h2,if_pos ⟨by omega,h2.2⟩]
 ·rw[if_neg h2,if_neg (fun h3=>h2 ⟨by rcases Nat.lt_succ_iff_lt_or_eq.1 h3.1 with h4|rfl;exact h4;exact absurd h3.2 h,h3.2⟩)]
theorem DS (B:List Bool) (F:List q8) (j:Nat) (hj:j<B.length):(y7 B F j)[j]! =B[j]! :=by rw[S8 B F j j hj,if_neg (by omega)]
theorem YV (B:List Bool) (F:List q8) (j m:Nat) (hj:j<B.length) (hm:j<m):(y7 B F (j+1))[j]! =(y7 B F m)[j]! :=by
 rw[S8 B F (j+1) j hj,S8 B F m j hj]
 by_cases h:F[j]!.kind=1
 ·rw[if_pos ⟨by omega,h⟩,if_pos ⟨hm,h⟩]
 ·rw[if_neg (fun x=>h x.2),if_neg (fun x=>h x.2)]
theorem aP2 (B:List Bool) (F:List q8) (j:Nat) (h:xfP B F j=true):xf B F (j+1)=xf B F j++ [xfI B j]:=by
 unfold xf
 rw[List.range_succ,List.filter_append,List.map_append]
 simp[h]
theorem bD1 (B:List Bool) (F:List q8) (j:Nat) (h:xfP B F j=false):xf B F (j+1)=xf B F j:=by
 unfold xf
 rw[List.range_succ,List.filter_append,List.map_append]
 simp[h]
theorem aK2 (odd:Bool) (B:List Bool) (F:List q8) (j:Nat):pU odd B F (j+1)=pU odd B F j++ [rwI odd B F j]:=by
 unfold pU
 rw[List.range_succ,List.map_append];rfl
theorem R1 (odd:Bool) (B:List Bool) (F:List q8) (j:Nat):(pU odd B F j).length=j:=by simp[pU]
theorem yA (B:List Bool) (F:List q8) (j:Nat):(xf B F j).length≤j:=by
 unfold xf
 rw[List.length_map]
 exact Nat.le_trans (List.length_filter_le _ _) (by simp)
theorem IJ (i:Nat) (L:List v4):(oW i L).length=L.length:=by unfold oW;split<;>simp
theorem LT (i:Nat) (B:List Bool) (F:List q8):(sA i B F).length≤F.length+F.length:=by
 unfold sA
 rw[List.length_append,IJ,R1]
 have:=yA B F F.length
 omega
theorem aE (k:Nat):(H4 k).length=k+1:=by simp[H4]
theorem OL (k:Nat):H4 (k+1)=H4 k++ [aZ9 k]:=by
 unfold H4
 rw[List.range_succ,List.map_append];rfl
theorem mM (B:List Bool):(J6 B).length=B.length:=by simp[J6]
theorem HG (B:List Bool) (j:Nat) (b:Bool):(J6 B).set j (.sc (.int .u8 (bN b)))=J6 (B.set j b):=by simp[J6,List.map_set]
theorem sD (B:List Bool) (j:Nat) (hj:j<B.length):B4 (J6 B) j none=some (.sc (.int .u8 (bN B[j]!))):=by
 unfold J6
 rw[oX _ _ _ hj,getElem!_pos B j hj]
 rfl
theorem CE (r:Bool × List q8):(H0 r).length=r.2.length:=by unfold H0;split;exact X6 _;rfl
theorem MR:∀ {L:List q8},L.all L9=true→E8 E3 L=L.length∧E8 H9 L=L.length
 | [],_=>⟨rfl,rfl⟩
 |x::L,h=>by
  rw[List.all_cons,Bool.and_eq_true] at h
  obtain ⟨i1,i2⟩:=MR h.2
  have hx:E3 x=1∧H9 x=1:=by
   obtain ⟨k,p,a,b⟩:=x
   have:=h.1
   unfold L9 at this
   simp only[decide_eq_true_eq] at this
   rcases this with rfl|rfl<;>simp[E3,H9]
  simp only[E8,hx.1,hx.2,i1,i2,List.length_cons]
  constructor<;>omega
theorem BY:∀ {R:List (Bool × List q8)} {z:Int},T8 z R=0→dD R=true→∀ r ∈ R,(r.2.length:Int)=z
 | [],_,_,_,r,h=>by cases h
 |q::R,z,h,hp,r,hr=>by
  by_cases h1:J5 q.2=0
  case neg=>rw[jU h1] at h;exact absurd h h1
  by_cases h2:E8 E3 q.2=z
  case neg=>rw[jV h1 h2] at h;cases h
  rw[nY h1 h2] at h
  have hp':q.2.all L9=true∧dD R=true:=by
   have:(q.2.all L9 && dD R)=true:=hp
   simpa using this
  obtain ⟨s1,s2⟩:=MR hp'.1
  rcases List.mem_cons.1 hr with rfl|h3
  ·rw[← h2,s1]
  ·rw[BY h hp'.2 r h3,s2,← s1,h2]
theorem CF {r:Bool × List q8} (h:r.2.all L9=true):(H0 r).all L9=true:=by
 unfold H0
 split
 ·unfold N1
  rw[List.all_map,List.all_reverse]
  rw[List.all_eq_true] at h ⊢
  intro x hx
  exact h x hx
 ·exact h
theorem wG {R:List (Bool × List q8)} {i:Nat} {B:List Bool} (hi:i<R.length):rN i B (R.drop i)=sA i B (H0 R[i]!)++rN (i+1) (y7 B (H0 R[i]!) (H0 R[i]!).length) (R.drop (i+1)):=by
 rw[mU hi];rfl
theorem DR (i:Nat) (h:i<1000000) (r:Int) (hr:((i % 2:Nat):Int)=r):I6 .and (.int .i64 i) (.int .i64 1)=some (.int .i64 r):=by
 subst hr
 have h1:(BitVec.ofInt 64 (i:Int) &&& BitVec.ofInt 64 1).toNat=i % 2:=by
  rw[BitVec.toNat_and,BitVec.toNat_ofInt,BitVec.toNat_ofInt]
  rw[show ((1:Int) % ((2 ^ 64:Nat):Int)).toNat=2 ^ 1 - 1 by decide,Nat.and_two_pow_sub_one_eq_mod]
  rw[show ((i:Int) % ((2 ^ 64:Nat):Int)).toNat=i by omega]
 simp only[I6,if_true]
 show some (Value.int .i64 (IntKind.i64.wrap ((BitVec.ofInt 64 (i:Int) &&& BitVec.ofInt 64 1).toNat:Int)))=_
 rw[h1]
 congr 2
 simp[IntKind.wrap,IntKind.bits,IntKind.signed]
 omega
theorem YT (i:Nat) (r:Int) (hr:((i % 2:Nat):Int)=r):I6 .rem (.int .i64 i) (.int .i64 2)=some (.int .i64 r):=by
 subst hr
 simp only[I6,if_true]
 rw[if_neg (by decide)]
 rw[Int.tmod_eq_emod_of_nonneg (by omega)]
 rfl
abbrev I4 (L:List v4):Itp.Obj:= .gro 40 7 false (p8 L)
abbrev dX (B:List Bool):Itp.Obj:= .row 5 1 false false (J6 B)
section
variable (w:World) (n:Nat)
theorem aQ6 {C:C6} (hC:C.E=EN w (n+1)) (h0:C.w0.nx=0) (z:Int) (s k:Nat) (R:List (Bool × List q8)) (rl:Int) (i:Nat) (hi:i<1000000) (B:List Bool) (F:List q8) (acc:List v4) (hF:F.length=B.length) (hp:F.all L9=true) (hFl:F.length≤1000) (hacc:acc.length≤1000000) (v55:V) (h55:v55= .sc (.bool false)) (zB:Nat) (hzB:B.length=zB) {K:List KF} {P:A3}
  (hgo:gK C K (.exit 4) [(1,.ptr 0 0),(5,.gr 2 1 (acc++xf B F F.length).length),(7,.ref 2 0 zB zB),(8,iN i),(11,.gr 2 3 F.length),(42,iN rl),(43,iN i),(52,tS 3 F),(53,iN F.length),(54,iN F.length),(55,v55)]
   ⟨[(3,I4 (pU (decide (i % 2=1)) (y7 B F F.length) F F.length)),(2,dX (y7 B F F.length)),(1,I4 (acc++xf B F F.length)),(0,jB z s k R)],4,0⟩ P):
  gL C [1,5,7,8,11,42,43,52,53,54] aP K [(1,.ptr 0 0),(5,.gr 2 1 acc.length),(7,.ref 2 0 zB zB),(8,iN i),(11,.gr 2 3 0),(42,iN rl),(43,iN i),(52,tS 3 F),(53,iN F.length),(54,iN 0)]
   ⟨[(3,I4 []),(2,dX B),(1,I4 acc),(0,jB z s k R)],4,0⟩ P:=by
 subst hzB
 have hrn:C.E.rounds=x8:=by rw[hC,j8]
 have hfl:=v3 F
 have hpar:∃ od:Bool,decide (i % 2=1)=od∧I6 .and (.int .i64 i) (.int .i64 1)=some (.int .i64 (if od then 1 else 0)):=by
  rcases Nat.mod_two_eq_zero_or_one i with h|h
  ·exact ⟨false,by rw[h];rfl,DR i hi 0 (by rw[h];rfl)⟩
  ·exact ⟨true,by rw[h];rfl,DR i hi 1 (by rw[h];rfl)⟩
 obtain ⟨od,hod,hbn⟩:=hpar
 rw[hod] at hgo
 clear hod
 refine n9 (fun m fr st=>∃ j:Nat,m=F.length - j∧j≤F.length∧fr= [(1,.ptr 0 0),(5,.gr 2 1 (acc++xf B F j).length),(7,.ref 2 0 B.length B.length),(8,iN i),(11,.gr 2 3 j),(42,iN rl),(43,iN i),(52,tS 3 F),(53,iN F.length),(54,iN j)]∧
  st=⟨[(3,I4 (pU od (y7 B F F.length) F j)),(2,dX (y7 B F j)),(1,I4 (acc++xf B F j)),(0,jB z s k R)],4,0⟩) F.length ?_ ⟨_,_,.refl _ _,0,by omega,Nat.zero_le _,by simp[xf],by simp[xf,pU,yY]⟩ ?_
 ·rw[hrn];unfold x8;omega
 rintro mm fr st ⟨j,rfl,hj,rfl,rfl⟩
 by_cases hlt:j<F.length
 case neg=>
  have:j=F.length:=by omega
  subst this
  subst h55
  simp (disch:=first|omega|exact f8|fail) only[WA,a8,b8,Nat.reduceEqDiff,Nat.reduceLT,Nat.reduceAdd,Nat.reduceBEq,Int.reduceAdd,Int.reduceSub,Int.reduceLT,Int.reduceLE,Int.reduceEq,Int.reduceNeg,↓reduceIte,reduceCtorEq,List.replicate,aP]
  exact hgo
 have hjB:j<B.length:=by omega
 have hag:=Q9 F j hlt
 have hb1:=sD (y7 B F j) j (by rw[F1];exact hjB)
 rw[DS B F j hjB] at hb1
 have hbl:=mM (y7 B F j)
 rw[F1] at hbl
 have hend:=YV B F j F.length hjB hlt
 have hb2:=sD (y7 B F (j+1)) j (by rw[F1];exact hjB)
 rw[hend] at hb2
 have hbl2:=mM (y7 B F (j+1))
 rw[F1] at hbl2
 have hrs:=aK2 od (y7 B F F.length) F j
 have hrd:=U5 (pU od (y7 B F F.length) F j) (rwI od (y7 B F F.length) F j)
 rw[← hrs] at hrd
 have hrl:=l7 (pU od (y7 B F F.length) F j)
 rw[R1] at hrl
 have hal:=l7 (acc++xf B F j)
 have hxl:=yA B F j
 have hxs:(acc++xf B F j).length≤1001000:=by rw[List.length_append];omega
 have had:=U5 (acc++xf B F j) (xfI B j)
 have hbset:=fun b=>HG (y7 B F j) j b
 have hkn:=yX B F j hjB
 have hsl:=oN B F j hjB
 have hxy:=aP2 B F j
 have hxn:=bD1 B F j
 have hpj:L9 F[j]! =true:=List.all_eq_true.1 hp _ (by rw[getElem!_pos F j hlt];exact List.getElem_mem hlt)
 unfold xfP at hxy hxn
 unfold rwI at hrd hrs
 unfold xfI at had
 have hfin:(y7 B F F.length)[j]! =if F[j]!.kind=1 then F[j]!.purl else B[j]! :=by rw[S8 _ _ _ _ hjB];simp[hlt]
 clear hgo hsl
 rw[hfin] at hrd hrs hb2
 generalize hxx:F[j]! =x at*
 obtain ⟨xk,xp,xa,xb⟩:=x
 have hk:xk=1∨xk=8:=by simpa [L9] using hpj
 have hslp:=oN B F j hjB
 rw[hxx] at hslp
 generalize hbb:B[j]! =b0 at*
 rcases hk with rfl|rfl
 ·have hkn':=hkn rfl
  simp only[if_true] at hrd hrs hfin hxy hxn hb2
  simp only[decide_true,Bool.true_and] at hxy hxn
  have hst:=hbset xp
  rw[← hkn'] at hst
  have hadd:(bne b0 xp)=true→p8 (acc++xf B F (j+1))=p8 (acc++xf B F j)++ [.sc (.int .u8 7),.sc (.bool false),.sc (.int .u8 (bN b0)),.sc (.int .i64 j),.sc (.int .i64 j),.sc (.int .i64 0),.sc (.int .i64 0)]:=fun h=>by
   rw[hxy h,← List.append_assoc,U5]
   unfold xfI
   rw[hbb]
   rfl
  cases xp<;>cases b0<;>cases od
  ·have hs0:(J6 (y7 B F j)).set j (.sc (.int .u8 0))=J6 (y7 B F (j+1)):=hst
   have hb0:B4 (J6 (y7 B F (j+1))) j none=some (.sc (.int .u8 0)):=hb2
   have hx0:=hxn rfl
   simp (disch:=first|omega|exact f8|(simp only[d9]<;>omega)) only[WA,a8,b8,Nat.reduceEqDiff,Nat.reduceLT,Nat.reduceAdd,Nat.reduceBEq,Int.reduceAdd,Int.reduceSub,Int.reduceLT,Int.reduceLE,Int.reduceEq,Int.reduceNeg,↓reduceIte,reduceCtorEq,List.replicate,aP,hag,hb1,bN,s6,hbn,hs0,hb0]
   all_goals try (exfalso;omega)
   refine ⟨F.length - (j+1),_,_,by omega,o7 [(6,3),(2,2),(1,1),(0,0)] 4 h0 rfl rfl rfl rfl,j+1,rfl,by omega,?_,?_⟩
   ·rw[hx0];rfl
   ·simp only[I4];rw[hrd,hx0];rfl
  ·have hs0:(J6 (y7 B F j)).set j (.sc (.int .u8 0))=J6 (y7 B F (j+1)):=hst
   have hb0:B4 (J6 (y7 B F (j+1))) j none=some (.sc (.int .u8 0)):=hb2
   have hx0:=hxn rfl
   simp (disch:=first|omega|exact f8|(simp only[d9]<;>omega)) only[WA,a8,b8,Nat.reduceEqDiff,Nat.reduceLT,Nat.reduceAdd,Nat.reduceBEq,Int.reduceAdd,Int.reduceSub,Int.reduceLT,Int.reduceLE,Int.reduceEq,Int.reduceNeg,↓reduceIte,reduceCtorEq,List.replicate,aP,hag,hb1,bN,s6,hbn,hs0,hb0]
   all_goals try (exfalso;omega)
   refine ⟨F.length - (j+1),_,_,by omega,o7 [(6,3),(2,2),(1,1),(0,0)] 4 h0 rfl rfl rfl rfl,j+1,rfl,by omega,?_,?_⟩
   ·rw[hx0];rfl
   ·simp only[I4];rw[hrd,hx0];rfl
  ·have hs0:(J6 (y7 B F j)).set j (.sc (.int .u8 0))=J6 (y7 B F (j+1)):=hst
   have hb0:B4 (J6 (y7 B F (j+1))) j none=some (.sc (.int .u8 0)):=hb2
   have hx0:=hxy rfl
   have hxl1:(acc++xf B F (j+1)).length=(acc++xf B F j).length+1:=by rw[hx0,← List.append_assoc,List.length_append];rfl
   simp (disch:=first|omega|exact f8|(simp only[d9]<;>omega)) only[WA,a8,b8,Nat.reduceEqDiff,Nat.reduceLT,Nat.reduceAdd,Nat.reduceBEq,Int.reduceAdd,Int.reduceSub,Int.reduceLT,Int.reduceLE,Int.reduceEq,Int.reduceNeg,↓reduceIte,reduceCtorEq,List.replicate,aP,hag,hb1,bN,s6,hbn,hs0,hb0]
   all_goals try (exfalso;omega)
   refine ⟨F.length - (j+1),_,_,by omega,o7 [(8,3),(2,2),(6,1),(0,0)] 4 h0 rfl rfl rfl rfl,j+1,rfl,by omega,?_,?_⟩
   ·rw[hxl1];rfl
   ·simp only[I4];rw[hrd,hadd rfl];rfl
  ·have hs0:(J6 (y7 B F j)).set j (.sc (.int .u8 0))=J6 (y7 B F (j+1)):=hst
   have hb0:B4 (J6 (y7 B F (j+1))) j none=some (.sc (.int .u8 0)):=hb2
   have hx0:=hxy rfl
   have hxl1:(acc++xf B F (j+1)).length=(acc++xf B F j).length+1:=by rw[hx0,← List.append_assoc,List.length_append];rfl
   simp (disch:=first|omega|exact f8|(simp only[d9]<;>omega)) only[WA,a8,b8,Nat.reduceEqDiff,Nat.reduceLT,Nat.reduceAdd,Nat.reduceBEq,Int.reduceAdd,Int.reduceSub,Int.reduceLT,Int.reduceLE,Int.reduceEq,Int.reduceNeg,↓reduceIte,reduceCtorEq,List.replicate,aP,hag,hb1,bN,s6,hbn,hs0,hb0]
   all_goals try (exfalso;omega)
   refine ⟨F.length - (j+1),_,_,by omega,o7 [(8,3),(2,2),(6,1),(0,0)] 4 h0 rfl rfl rfl rfl,j+1,rfl,by omega,?_,?_⟩
   ·rw[hxl1];rfl
   ·simp only[I4];rw[hrd,hadd rfl];rfl
  ·have hs0:(J6 (y7 B F j)).set j (.sc (.int .u8 1))=J6 (y7 B F (j+1)):=hst
   have hb0:B4 (J6 (y7 B F (j+1))) j none=some (.sc (.int .u8 1)):=hb2
   have hx0:=hxy rfl
   have hxl1:(acc++xf B F (j+1)).length=(acc++xf B F j).length+1:=by rw[hx0,← List.append_assoc,List.length_append];rfl
   simp (disch:=first|omega|exact f8|(simp only[d9]<;>omega)) only[WA,a8,b8,Nat.reduceEqDiff,Nat.reduceLT,Nat.reduceAdd,Nat.reduceBEq,Int.reduceAdd,Int.reduceSub,Int.reduceLT,Int.reduceLE,Int.reduceEq,Int.reduceNeg,↓reduceIte,reduceCtorEq,List.replicate,aP,hag,hb1,bN,s6,hbn,hs0,hb0]
   all_goals try (exfalso;omega)
   refine ⟨F.length - (j+1),_,_,by omega,o7 [(8,3),(2,2),(6,1),(0,0)] 4 h0 rfl rfl rfl rfl,j+1,rfl,by omega,?_,?_⟩
   ·rw[hxl1];rfl
   ·simp only[I4];rw[hrd,hadd rfl];rfl
  ·have hs0:(J6 (y7 B F j)).set j (.sc (.int .u8 1))=J6 (y7 B F (j+1)):=hst
   have hb0:B4 (J6 (y7 B F (j+1))) j none=some (.sc (.int .u8 1)):=hb2
   have hx0:=hxy rfl
   have hxl1:(acc++xf B F (j+1)).length=(acc++xf B F j).length+1:=by rw[hx0,← List.append_assoc,List.length_append];rfl
   simp (disch:=first|omega|exact f8|(simp only[d9]<;>omega)) only[WA,a8,b8,Nat.reduceEqDiff,Nat.reduceLT,Nat.reduceAdd,Nat.reduceBEq,Int.reduceAdd,Int.reduceSub,Int.reduceLT,Int.reduceLE,Int.reduceEq,Int.reduceNeg,↓reduceIte,reduceCtorEq,List.replicate,aP,hag,hb1,bN,s6,hbn,hs0,hb0]
   all_goals try (exfalso;omega)
   refine ⟨F.length - (j+1),_,_,by omega,o7 [(8,3),(2,2),(6,1),(0,0)] 4 h0 rfl rfl rfl rfl,j+1,rfl,by omega,?_,?_⟩
   ·rw[hxl1];rfl
   ·simp only[I4];rw[hrd,hadd rfl];rfl
  ·have hs0:(J6 (y7 B F j)).set j (.sc (.int .u8 1))=J6 (y7 B F (j+1)):=hst
   have hb0:B4 (J6 (y7 B F (j+1))) j none=some (.sc (.int .u8 1)):=hb2
   have hx0:=hxn rfl
   simp (disch:=first|omega|exact f8|(simp only[d9]<;>omega)) only[WA,a8,b8,Nat.reduceEqDiff,Nat.reduceLT,Nat.reduceAdd,Nat.reduceBEq,Int.reduceAdd,Int.reduceSub,Int.reduceLT,Int.reduceLE,Int.reduceEq,Int.reduceNeg,↓reduceIte,reduceCtorEq,List.replicate,aP,hag,hb1,bN,s6,hbn,hs0,hb0]
   all_goals try (exfalso;omega)
   refine ⟨F.length - (j+1),_,_,by omega,o7 [(6,3),(2,2),(1,1),(0,0)] 4 h0 rfl rfl rfl rfl,j+1,rfl,by omega,?_,?_⟩
   ·rw[hx0];rfl
   ·simp only[I4];rw[hrd,hx0];rfl
  ·have hs0:(J6 (y7 B F j)).set j (.sc (.int .u8 1))=J6 (y7 B F (j+1)):=hst
   have hb0:B4 (J6 (y7 B F (j+1))) j none=some (.sc (.int .u8 1)):=hb2
   have hx0:=hxn rfl
   simp (disch:=first|omega|exact f8|(simp only[d9]<;>omega)) only[WA,a8,b8,Nat.reduceEqDiff,Nat.reduceLT,Nat.reduceAdd,Nat.reduceBEq,Int.reduceAdd,Int.reduceSub,Int.reduceLT,Int.reduceLE,Int.reduceEq,Int.reduceNeg,↓reduceIte,reduceCtorEq,List.replicate,aP,hag,hb1,bN,s6,hbn,hs0,hb0]
   all_goals try (exfalso;omega)
   refine ⟨F.length - (j+1),_,_,by omega,o7 [(6,3),(2,2),(1,1),(0,0)] 4 h0 rfl rfl rfl rfl,j+1,rfl,by omega,?_,?_⟩
   ·rw[hx0];rfl
   ·simp only[I4];rw[hrd,hx0];rfl
 ·have hkn':=hslp (fun h=>by cases h)
  simp only[show ¬ (8:Nat)=1 by decide,if_false] at hrd hrs hfin hb2
  have hx0:=hxn (by simp)
  cases xp<;>cases od
  ·simp (disch:=first|omega|exact f8|(simp only[d9]<;>omega)) only[WA,a8,b8,Nat.reduceEqDiff,Nat.reduceLT,Nat.reduceAdd,Nat.reduceBEq,Int.reduceAdd,Int.reduceSub,Int.reduceLT,Int.reduceLE,Int.reduceEq,Int.reduceNeg,↓reduceIte,reduceCtorEq,List.replicate,aP,hag,hb1,s6,hbn]
   all_goals try (exfalso;omega)
   refine ⟨F.length - (j+1),_,_,by omega,o7 [(6,3),(2,2),(1,1),(0,0)] 4 h0 rfl rfl rfl rfl,j+1,rfl,by omega,?_,?_⟩
   ·rw[hx0];rfl
   ·simp only[I4];rw[hrd,hx0,hkn'];rfl
  ·simp (disch:=first|omega|exact f8|(simp only[d9]<;>omega)) only[WA,a8,b8,Nat.reduceEqDiff,Nat.reduceLT,Nat.reduceAdd,Nat.reduceBEq,Int.reduceAdd,Int.reduceSub,Int.reduceLT,Int.reduceLE,Int.reduceEq,Int.reduceNeg,↓reduceIte,reduceCtorEq,List.replicate,aP,hag,hb1,s6,hbn]
   all_goals try (exfalso;omega)
   refine ⟨F.length - (j+1),_,_,by omega,o7 [(6,3),(2,2),(1,1),(0,0)] 4 h0 rfl rfl rfl rfl,j+1,rfl,by omega,?_,?_⟩
   ·rw[hx0];rfl
   ·simp only[I4];rw[hrd,hx0,hkn'];rfl
  ·simp (disch:=first|omega|exact f8|(simp only[d9]<;>omega)) only[WA,a8,b8,Nat.reduceEqDiff,Nat.reduceLT,Nat.reduceAdd,Nat.reduceBEq,Int.reduceAdd,Int.reduceSub,Int.reduceLT,Int.reduceLE,Int.reduceEq,Int.reduceNeg,↓reduceIte,reduceCtorEq,List.replicate,aP,hag,hb1,s6,hbn]
   all_goals try (exfalso;omega)
   refine ⟨F.length - (j+1),_,_,by omega,o7 [(6,3),(2,2),(1,1),(0,0)] 4 h0 rfl rfl rfl rfl,j+1,rfl,by omega,?_,?_⟩
   ·rw[hx0];rfl
   ·simp only[I4];rw[hrd,hx0,hkn'];rfl
  ·simp (disch:=first|omega|exact f8|(simp only[d9]<;>omega)) only[WA,a8,b8,Nat.reduceEqDiff,Nat.reduceLT,Nat.reduceAdd,Nat.reduceBEq,Int.reduceAdd,Int.reduceSub,Int.reduceLT,Int.reduceLE,Int.reduceEq,Int.reduceNeg,↓reduceIte,reduceCtorEq,List.replicate,aP,hag,hb1,s6,hbn]
   all_goals try (exfalso;omega)
   refine ⟨F.length - (j+1),_,_,by omega,o7 [(6,3),(2,2),(1,1),(0,0)] 4 h0 rfl rfl rfl rfl,j+1,rfl,by omega,?_,?_⟩
   ·rw[hx0];rfl
   ·simp only[I4];rw[hrd,hx0,hkn'];rfl
end
theorem nA {C:C6} {ks:List Nat} {b:AC} {K:List KF} {fr fr':D0} {st st':n4} {P:A3} (hw:L2 C fr st fr' st') (h:gL C ks b K fr' st' P):gL C ks b K fr st P:=fun frI s hr=>h frI s (hw s frI hr)
theorem LV {z:Nat} {R:List (Bool × List q8)} (hck:fV ((z:Int),R)=0) (hpl:dD R=true) {i:Nat} (hi:i<R.length):R[i]!.2.length=z:=by
 have:=BY (eC hck).2.2.2 hpl R[i]! (by rw[getElem!_pos R i hi];exact List.getElem_mem hi)
 simp only at this
 omega
theorem LW {R:List (Bool × List q8)} (hpl:dD R=true) {i:Nat} (hi:i<R.length):R[i]!.2.all L9=true:=List.all_eq_true.1 hpl R[i]! (by rw[getElem!_pos R i hi];exact List.getElem_mem hi)
section
variable (w:World) (n:Nat)
theorem ZR {C:C6} (hC:C.E=EN w (n+10)) (h0:C.w0.nx=0) (z:Nat) (hz:0<z) (hz2:z≤101) (s k:Nat) (hs:s ≠ 1) (hk1:k ≠ 1) (R:List (Bool × List q8)) (hK:bT R) (hck:fV ((z:Int),R)=0) (hpl:dD R=true) {K:List KF} {P:A3}
  (hgo:∀ B:List Bool,gK C K (.exit 2) [(1,.ptr 0 0),(5,.gr 2 1 (Y6 z R).length),(7,.ref 2 0 z z),(42,iN R.length),(43,iN R.length),(44,.sc (.bool false))] ⟨[(2,dX B),(1,I4 (Y6 z R)),(0,jB z s k R)],3,0⟩ P):
  gL C [1,5,7,42,43] HM K [(1,.ptr 0 0),(5,.gr 2 1 (H4 z).length),(7,.ref 2 0 z z),(42,iN R.length),(43,iN 0)] ⟨[(2,dX (List.replicate z false)),(1,I4 (H4 z)),(0,jB z s k R)],3,0⟩ P:=by
 have hrn:C.E.rounds=x8:=by rw[hC,j8]
 have hR:=(eC hck).1
 simp only at hR
 have hrl:=E6 k R
 refine n9 (fun m fr st=>∃ (i:Nat) (B:List Bool) (acc:List v4),m=R.length - i∧i≤R.length∧B.length=z∧Y6 z R=acc++rN i B (R.drop i)∧acc.length≤102+i*202∧
  fr= [(1,.ptr 0 0),(5,.gr 2 1 acc.length),(7,.ref 2 0 z z),(42,iN R.length),(43,iN i)]∧st=⟨[(2,dX B),(1,I4 acc),(0,jB z s k R)],3,0⟩) R.length ?_ ⟨_,_,.refl _ _,0,List.replicate z false,H4 z,by omega,Nat.zero_le _,by simp,rfl,by rw[aE];omega,rfl,rfl⟩ ?_
 ·rw[hrn];unfold x8;omega
 rintro mm fr st ⟨i,B,acc,rfl,hi,hB,hinv,hacc,rfl,rfl⟩
 by_cases hlt:i<R.length
 case neg=>
  have:i=R.length:=by omega
  subst this
  have e:Y6 z R=acc:=by rw[hinv,List.drop_length,rN,List.append_nil]
  have hgo:=hgo B
  rw[e] at hgo
  simp (disch:=first|omega|exact f8|fail) only[WA,a8,b8,Nat.reduceEqDiff,Nat.reduceLT,Nat.reduceAdd,Nat.reduceBEq,Int.reduceAdd,Int.reduceSub,Int.reduceLT,Int.reduceLE,Int.reduceEq,Int.reduceNeg,↓reduceIte,reduceCtorEq,List.replicate,HM]
  exact hgo
 have hlen:=LV hck hpl hlt
 have hfc:=bE5 w n s k hs hk1 z R hK i hlt (.inr (.inr (by omega))) hck
 have hFl:=CE R[i]!
 rw[hlen] at hFl
 have hFp:=CF (LW hpl hlt)
 rw[wG hlt,← List.append_assoc] at hinv
 have hrw:=LT i B (H0 R[i]!)
 have hri:sA i B (H0 R[i]!)=xf B (H0 R[i]!) (H0 R[i]!).length++oW i (pU (decide (i % 2=1)) (y7 B (H0 R[i]!) (H0 R[i]!).length) (H0 R[i]!) (H0 R[i]!).length):=rfl
 generalize H0 R[i]! =F at*
 simp (disch:=first|omega|exact f8|fail) only[WA,a8,b8,Nat.reduceEqDiff,Nat.reduceLT,Nat.reduceAdd,Nat.reduceBEq,Int.reduceAdd,Int.reduceSub,Int.reduceLT,Int.reduceLE,Int.reduceEq,Int.reduceNeg,↓reduceIte,reduceCtorEq,List.replicate,HM]
 all_goals try (exfalso;omega)
 refine M3 (by rw[hC];exact hfc) rfl rfl (fun _=>rfl) ?_
 simp (disch:=first|exact f8|fail) only[WA,a8,b8,Nat.reduceEqDiff,Nat.reduceLT,Nat.reduceAdd,Nat.reduceBEq,Int.reduceAdd,Int.reduceSub,Int.reduceLT,Int.reduceLE,Int.reduceEq,Int.reduceNeg,↓reduceIte,reduceCtorEq,List.replicate]
 refine nA (aD 11 40 7 rfl) ?_
 refine aQ6 w (n+9) hC h0 z s k R R.length i (by omega) B F acc (by omega) hFp (by omega) (by omega) _ rfl z hB ?_
 have hpar:(∃ x:Unit,i % 2=0∧decide (i % 2=1)=false∧I6 .and (.int .i64 i) (.int .i64 1)=some (.int .i64 0))∨(∃ x:Unit,i % 2=1∧decide (i % 2=1)=true∧I6 .and (.int .i64 i) (.int .i64 1)=some (.int .i64 1)):=by
  rcases Nat.mod_two_eq_zero_or_one i with h|h
  ·exact .inl ⟨(),h,by rw[h];rfl,DR i (by omega) 0 (by rw[h];rfl)⟩
  ·exact .inr ⟨(),h,by rw[h];rfl,DR i (by omega) 1 (by rw[h];rfl)⟩
 have hal:=l7 (acc++xf B F F.length)
 have hxl:=yA B F F.length
 have hal2:(acc++xf B F F.length).length≤21000:=by rw[List.length_append];omega
 have hbq:=F1 B F F.length
 rw[hB] at hbq
 rcases hpar with ⟨_,h2,hod,hbn⟩|⟨_,h2,hod,hbn⟩
 ·rw[hod] at hri ⊢
  unfold oW at hri
  rw[if_pos h2] at hri
  have hrv:=fun {Q}=>@XJ w (n+9) C Q hC (pU false (y7 B F F.length) F F.length) (by rw[R1];omega)
  rw[R1] at hrv
  have hrr:=l7 (pU false (y7 B F F.length) F F.length).reverse
  rw[List.length_reverse,R1] at hrr
  have hok:=nH (pU false (y7 B F F.length) F F.length).reverse
  have happ:=L6 (acc++xf B F F.length) (pU false (y7 B F F.length) F F.length).reverse
  rw[List.append_assoc acc,← hri] at happ
  have hll:(acc++sA i B F).length=(acc++xf B F F.length).length+F.length:=by rw[hri,← List.append_assoc,List.length_append,List.length_reverse,R1]
  simp (disch:=first|exact f8|(simp only[d9]<;>omega)) only[WA,a8,b8,Nat.reduceEqDiff,Nat.reduceLT,Nat.reduceAdd,Nat.reduceBEq,Int.reduceAdd,Int.reduceSub,Int.reduceLT,Int.reduceLE,Int.reduceEq,Int.reduceNeg,↓reduceIte,reduceCtorEq,List.replicate,hbn]
  refine hrv _ _ _ ?_
  simp (disch:=first|omega|exact f8|fail) only[WA,a8,b8,Nat.reduceEqDiff,Nat.reduceLT,Nat.reduceAdd,Nat.reduceBEq,Int.reduceAdd,Int.reduceSub,Int.reduceLT,Int.reduceLE,Int.reduceEq,Int.reduceNeg,↓reduceIte,reduceCtorEq,List.replicate]
  all_goals try (exfalso;omega)
  exact ⟨R.length - (i+1),_,_,by omega,o7 [(2,2),(4,1),(0,0)] 3 h0 rfl rfl rfl rfl,i+1,y7 B F F.length,acc++sA i B F,rfl,by omega,hbq,hinv,by rw[List.length_append];omega,by rw[hll];rfl,by simp only[I4];rw[happ];rfl⟩
 ·rw[hod] at hri ⊢
  unfold oW at hri
  rw[if_neg (by omega)] at hri
  have hrr:=l7 (pU true (y7 B F F.length) F F.length)
  rw[R1] at hrr
  have hok:=nH (pU true (y7 B F F.length) F F.length)
  have happ:=L6 (acc++xf B F F.length) (pU true (y7 B F F.length) F F.length)
  rw[List.append_assoc acc,← hri] at happ
  have hll:(acc++sA i B F).length=(acc++xf B F F.length).length+F.length:=by rw[hri,← List.append_assoc,List.length_append,R1]
  simp (disch:=first|omega|exact f8|fail) only[WA,a8,b8,Nat.reduceEqDiff,Nat.reduceLT,Nat.reduceAdd,Nat.reduceBEq,Int.reduceAdd,Int.reduceSub,Int.reduceLT,Int.reduceLE,Int.reduceEq,Int.reduceNeg,↓reduceIte,reduceCtorEq,List.replicate,hbn]
  all_goals try (exfalso;omega)
  exact ⟨R.length - (i+1),_,_,by omega,o7 [(2,2),(4,1),(0,0)] 3 h0 rfl rfl rfl rfl,i+1,y7 B F F.length,acc++sA i B F,rfl,by omega,hbq,hinv,by rw[List.length_append];omega,by rw[hll];rfl,by simp only[I4];rw[happ];rfl⟩
end
theorem eB (k:Nat):p8 (H4 (k+1))=p8 (H4 k)++ [.sc (.int .u8 3),.sc (.bool true),.sc (.int .u8 0),.sc (.int .i64 k),.sc (.int .i64 0),.sc (.int .i64 1),.sc (.int .i64 0)]:=by rw[OL,U5];rfl
theorem AQ:p8 (H4 0)= [.sc (.int .u8 1),.sc (.bool false),.sc (.int .u8 0),.sc (.int .i64 0),.sc (.int .i64 0),.sc (.int .i64 1),.sc (.int .i64 0)]:=rfl
theorem HF (z:Nat):List.replicate z (D.sc (.int .u8 0))=J6 (List.replicate z false):=by
 unfold J6
 rw[List.map_replicate];rfl
theorem wT {H:D6} {o c t n:Nat} {g z:Bool} {l:List D} (h:i7 H o=some (.row t 7 g z l)) (hl:l.length=n*7):B1 H (.ref o 0 n c)=some (.sl 0 n l):=by
 simp only[B1,aL,h,Nat.zero_add,List.drop_zero]
 rw[if_pos (by omega)]
 show some (V.sl 0 n (l.take (n*7)))=_
 rw[List.take_of_length_le (by omega)]
abbrev jfV (p:List v4 × Int):V:= .tup [jS 3 p.1,iN p.2]
section
variable (w:World) (n:Nat)
theorem ZQ {C:C6} (hC:C.E=EN w (n+1)) (h0:C.w0.nx=0) (z:Nat) (hz:0<z) (hz2:z≤1000) (s k:Nat) (R:List (Bool × List q8)) {K:List KF} {P:A3}
  (hgo:gK C K (.exit 0) [(1,.ptr 0 0),(5,.gr 2 1 (H4 z).length),(27,iN z),(28,iN z),(29,.sc (.bool false))] ⟨[(1,I4 (H4 z)),(0,jB z s k R)],2,0⟩ P):
  gL C [1,5,27,28] zF K [(1,.ptr 0 0),(5,.ref 1 0 1 1),(27,iN z),(28,iN 0)] ⟨[(1,.row 40 7 false false (p8 (H4 0))),(0,jB z s k R)],2,0⟩ P:=by
 have hrn:C.E.rounds=x8:=by rw[hC,j8]
 refine n9 (fun m fr st=>(m=z∧fr= [(1,.ptr 0 0),(5,.ref 1 0 1 1),(27,iN z),(28,iN 0)]∧st=⟨[(1,.row 40 7 false false (p8 (H4 0))),(0,jB z s k R)],2,0⟩)∨
  ∃ j:Nat,m=z - j∧0<j∧j≤z∧fr= [(1,.ptr 0 0),(5,.gr 2 1 (H4 j).length),(27,iN z),(28,iN j)]∧st=⟨[(1,I4 (H4 j)),(0,jB z s k R)],2,0⟩) z ?_ ⟨_,_,.refl _ _,.inl ⟨rfl,rfl,rfl⟩⟩ ?_
 ·rw[hrn];unfold x8;omega
 rintro mm fr st (⟨rfl,rfl,rfl⟩|⟨j,rfl,hj0,hj,rfl,rfl⟩)
 ·rw[AQ]
  have h1:=eB 0
  rw[AQ] at h1
  simp (disch:=first|omega|exact f8|(simp only[d9]<;>omega)) only[WA,a8,b8,Nat.reduceEqDiff,Nat.reduceLT,Nat.reduceAdd,Nat.reduceBEq,Int.reduceAdd,Int.reduceSub,Int.reduceLT,Int.reduceLE,Int.reduceEq,Int.reduceNeg,↓reduceIte,reduceCtorEq,List.replicate,zF,s6]
  all_goals try (exfalso;omega)
  exact ⟨mm - 1,_,_,by omega,o7 [(3,1),(0,0)] 2 h0 rfl rfl rfl rfl,.inr ⟨1,rfl,by omega,by omega,rfl,by simp only[I4];rw[h1];rfl⟩⟩
 by_cases hlt:j<z
 case neg=>
  have:j=z:=by omega
  subst this
  simp (disch:=first|omega|exact f8|fail) only[WA,a8,b8,Nat.reduceEqDiff,Nat.reduceLT,Nat.reduceAdd,Nat.reduceBEq,Int.reduceAdd,Int.reduceSub,Int.reduceLT,Int.reduceLE,Int.reduceEq,Int.reduceNeg,↓reduceIte,reduceCtorEq,List.replicate,zF]
  exact hgo
 have h1:=eB j
 have hl:=l7 (H4 j)
 have hcl:=aE j
 have hcl1:=aE (j+1)
 generalize H4 j=A at*
 simp (disch:=first|omega|exact f8|(simp only[d9]<;>omega)) only[WA,a8,b8,Nat.reduceEqDiff,Nat.reduceLT,Nat.reduceAdd,Nat.reduceBEq,Int.reduceAdd,Int.reduceSub,Int.reduceLT,Int.reduceLE,Int.reduceEq,Int.reduceNeg,↓reduceIte,reduceCtorEq,List.replicate,zF,s6]
 all_goals try (exfalso;omega)
 exact ⟨z - (j+1),_,_,by omega,o7 [(3,1),(0,0)] 2 h0 rfl rfl rfl rfl,.inr ⟨j+1,rfl,by omega,by omega,by rw[hcl1,hcl];rfl,by simp only[I4];rw[h1];rfl⟩⟩
theorem VX (s k:Nat) (hs:s ≠ 1) (hk1:k ≠ 1) (zi:Int) (R:List (Bool × List q8)) (hR:R.length≤140737488351232) (hK:bT R) (h0R:zi=0→R= []):n5 (EN w (n+11)) 28 [cM s k (zi,R)] (jfV (mQ (zi,R))) ⟨[],0,0⟩:=by
 have hrl:=E6 k R
 have hck:=zI w (n+1) s k hs zi R hR hK
 have hpl:=aT5 w (n+6) s k zi R hR hK
 unfold mQ
 refine N2 rfl rfl (fun _ _=>rfl) (Nat.le_of_ble_eq_true rfl) (k9 w) jT rfl fun C hC h0=>?_
 by_cases e1:fV (zi,R)=0
 case neg=>
  rw[if_pos e1]
  generalize fV (zi,R)=E at*
  simp (disch:=first|exact f8|fail) only[WA,a8,b8,Nat.reduceEqDiff,Nat.reduceLT,Nat.reduceAdd,Nat.reduceBEq,Int.reduceAdd,Int.reduceSub,Int.reduceLT,Int.reduceLE,Int.reduceEq,Int.reduceNeg,↓reduceIte,reduceCtorEq,List.replicate,c28]
  refine a9 (by rw[hC];exact hck.flat rfl rfl) ?_
  simp (disch:=first|exact f8|(simp only[d9]<;>omega)) only[WA,a8,b8,Nat.reduceEqDiff,Nat.reduceLT,Nat.reduceAdd,Nat.reduceBEq,Int.reduceAdd,Int.reduceSub,Int.reduceLT,Int.reduceLE,Int.reduceEq,Int.reduceNeg,↓reduceIte,reduceCtorEq,List.replicate,e1]
  exact O6 h0 rfl
 rw[if_neg (fun h=>h e1)]
 rw[e1] at hck
 by_cases e2:FO (zi,R)=true
 case neg=>
  rw[if_neg e2]
  rw[Bool.not_eq_true] at e2
  rw[e2] at hpl
  simp (disch:=first|exact f8|fail) only[WA,a8,b8,Nat.reduceEqDiff,Nat.reduceLT,Nat.reduceAdd,Nat.reduceBEq,Int.reduceAdd,Int.reduceSub,Int.reduceLT,Int.reduceLE,Int.reduceEq,Int.reduceNeg,↓reduceIte,reduceCtorEq,List.replicate,c28]
  refine a9 (by rw[hC];exact hck.flat rfl rfl) ?_
  simp (disch:=first|exact f8|fail) only[WA,a8,b8,Nat.reduceEqDiff,Nat.reduceLT,Nat.reduceAdd,Nat.reduceBEq,Int.reduceAdd,Int.reduceSub,Int.reduceLT,Int.reduceLE,Int.reduceEq,Int.reduceNeg,↓reduceIte,reduceCtorEq,List.replicate]
  refine a9 (by rw[hC];exact hpl.flat rfl rfl) ?_
  simp (disch:=first|exact f8|fail) only[WA,a8,b8,Nat.reduceEqDiff,Nat.reduceLT,Nat.reduceAdd,Nat.reduceBEq,Int.reduceAdd,Int.reduceSub,Int.reduceLT,Int.reduceLE,Int.reduceEq,Int.reduceNeg,↓reduceIte,reduceCtorEq,List.replicate]
  exact O6 h0 rfl
 rw[if_pos e2]
 rw[e2] at hpl
 have hz0:=eC e1
 simp only at hz0
 obtain ⟨z,rfl⟩:∃ z:Nat,zi=z:=⟨zi.toNat,by omega⟩
 have hpz:dD R=true∧z≤101:=by
  unfold FO at e2
  simp only[Bool.and_eq_true,decide_eq_true_eq] at e2
  exact ⟨e2.1,by omega⟩
 simp only[Int.toNat_natCast]
 have h1:=AQ
 by_cases hz:z=0
 ·subst hz
  have hRn:=h0R rfl
  subst hRn
  have hcl:Y6 0 []= [in1]:=rfl
  rw[if_neg (by rw[hcl];decide),hcl]
  simp (disch:=first|exact f8|fail) only[WA,a8,b8,Nat.reduceEqDiff,Nat.reduceLT,Nat.reduceAdd,Nat.reduceBEq,Int.reduceAdd,Int.reduceSub,Int.reduceLT,Int.reduceLE,Int.reduceEq,Int.reduceNeg,↓reduceIte,reduceCtorEq,List.replicate,c28]
  refine a9 (by rw[hC];exact hck.flat rfl rfl) ?_
  simp (disch:=first|exact f8|fail) only[WA,a8,b8,Nat.reduceEqDiff,Nat.reduceLT,Nat.reduceAdd,Nat.reduceBEq,Int.reduceAdd,Int.reduceSub,Int.reduceLT,Int.reduceLE,Int.reduceEq,Int.reduceNeg,↓reduceIte,reduceCtorEq,List.replicate]
  refine a9 (by rw[hC];exact hpl.flat rfl rfl) ?_
  simp (disch:=first|exact f8|(simp only[d9]<;>omega)) only[WA,a8,b8,Nat.reduceEqDiff,Nat.reduceLT,Nat.reduceAdd,Nat.reduceBEq,Int.reduceAdd,Int.reduceSub,Int.reduceLT,Int.reduceLE,Int.reduceEq,Int.reduceNeg,↓reduceIte,reduceCtorEq,List.replicate,s6]
  refine n9 (fun m fr st=>m=0∧fr= [(1,.ptr 0 0),(5,.ref 1 0 1 1),(27,iN 0),(28,iN 0)]∧st=⟨[(1,.row 40 7 false false (p8 [in1])),(0,jB 0 s k [])],2,0⟩) 0 ?_ ⟨_,_,.refl _ _,rfl,rfl,rfl⟩ ?_
  ·rw[hC,j8];unfold x8;omega
  rintro m fr st ⟨rfl,rfl,rfl⟩
  simp (disch:=first|omega|exact f8|fail) only[WA,a8,b8,Nat.reduceEqDiff,Nat.reduceLT,Nat.reduceAdd,Nat.reduceBEq,Int.reduceAdd,Int.reduceSub,Int.reduceLT,Int.reduceLE,Int.reduceEq,Int.reduceNeg,↓reduceIte,reduceCtorEq,List.replicate,zF]
  refine n9 (fun m fr st=>m=0∧fr= [(1,.ptr 0 0),(5,.ref 1 0 1 1),(7,.ref 2 0 0 0),(42,iN 0),(43,iN 0)]∧st=⟨[(2,.row 5 1 false false []),(1,.row 40 7 false false (p8 [in1])),(0,jB 0 s k [])],3,0⟩) 0 ?_ ⟨_,_,.refl _ _,rfl,rfl,rfl⟩ ?_
  ·rw[hC,j8];unfold x8;omega
  rintro m fr st ⟨rfl,rfl,rfl⟩
  simp (disch:=first|omega|exact f8|fail) only[WA,a8,b8,Nat.reduceEqDiff,Nat.reduceLT,Nat.reduceAdd,Nat.reduceBEq,Int.reduceAdd,Int.reduceSub,Int.reduceLT,Int.reduceLE,Int.reduceEq,Int.reduceNeg,↓reduceIte,reduceCtorEq,List.replicate,HM]
  exact iQ (wT rfl rfl) rfl (.inl (by decide)) h0 rfl
 ·have hmk:=fun nx t=>Z8 nx t 1 (.int .u8 0) rfl .i64 .i64 (z:Int) (z:Int) (by omega) (by omega) (by omega) (by omega)
  rw[Int.toNat_natCast,HF] at hmk
  have hlc:=l7 (Y6 z R)
  simp (disch:=first|exact f8|fail) only[WA,a8,b8,Nat.reduceEqDiff,Nat.reduceLT,Nat.reduceAdd,Nat.reduceBEq,Int.reduceAdd,Int.reduceSub,Int.reduceLT,Int.reduceLE,Int.reduceEq,Int.reduceNeg,↓reduceIte,reduceCtorEq,List.replicate,c28]
  refine a9 (by rw[hC];exact hck.flat rfl rfl) ?_
  simp (disch:=first|exact f8|fail) only[WA,a8,b8,Nat.reduceEqDiff,Nat.reduceLT,Nat.reduceAdd,Nat.reduceBEq,Int.reduceAdd,Int.reduceSub,Int.reduceLT,Int.reduceLE,Int.reduceEq,Int.reduceNeg,↓reduceIte,reduceCtorEq,List.replicate]
  refine a9 (by rw[hC];exact hpl.flat rfl rfl) ?_
  simp (disch:=first|exact f8|(simp only[d9]<;>omega)) only[WA,a8,b8,Nat.reduceEqDiff,Nat.reduceLT,Nat.reduceAdd,Nat.reduceBEq,Int.reduceAdd,Int.reduceSub,Int.reduceLT,Int.reduceLE,Int.reduceEq,Int.reduceNeg,↓reduceIte,reduceCtorEq,List.replicate,s6]
  refine ZQ w (n+9) hC h0 z (by omega) (by omega) s k R ?_
  simp (disch:=first|exact f8|fail) only[WA,a8,b8,Nat.reduceEqDiff,Nat.reduceLT,Nat.reduceAdd,Nat.reduceBEq,Int.reduceAdd,Int.reduceSub,Int.reduceLT,Int.reduceLE,Int.reduceEq,Int.reduceNeg,↓reduceIte,reduceCtorEq,List.replicate,hmk]
  refine ZR w n hC h0 z (by omega) hpz.2 s k hs hk1 R hK e1 hpz.1 fun B=>?_
  by_cases hb:2000<(Y6 z R).length
  ·rw[if_pos hb]
   simp (disch:=first|omega|exact f8|fail) only[WA,a8,b8,Nat.reduceEqDiff,Nat.reduceLT,Nat.reduceAdd,Nat.reduceBEq,Int.reduceAdd,Int.reduceSub,Int.reduceLT,Int.reduceLE,Int.reduceEq,Int.reduceNeg,↓reduceIte,reduceCtorEq,List.replicate]
   all_goals try (exfalso;omega)
   exact O6 h0 rfl
  ·rw[if_neg hb]
   simp (disch:=first|omega|exact f8|fail) only[WA,a8,b8,Nat.reduceEqDiff,Nat.reduceLT,Nat.reduceAdd,Nat.reduceBEq,Int.reduceAdd,Int.reduceSub,Int.reduceLT,Int.reduceLE,Int.reduceEq,Int.reduceNeg,↓reduceIte,reduceCtorEq,List.replicate]
   all_goals try (exfalso;omega)
   exact iQ (bJ rfl hlc) rfl (.inl (by decide)) h0 rfl
end
theorem pC (a:Bool):aR0 true (.sc (.bool a)) (.sc (.bool true))=some (.sc (.bool (!a))):=by cases a<;>rfl
theorem pB (a:Bool):aR0 true (.sc (.bool a)) (.sc (.bool false))=some (.sc (.bool a)):=by cases a<;>rfl
theorem ZZ (i:Nat) (od:Bool) (B:List Bool) (F:List q8) (N m:Nat) (hm:m<N):(oW i (pU od B F N))[m]! =rwI od B F (if i % 2=0 then N - 1 - m else m):=by
 have hr:∀ k,k<N→(pU od B F N)[k]! =rwI od B F k:=fun k hk=>by
  rw[getElem!_pos _ k (by rw[R1];exact hk)]
  simp[pU]
 unfold oW
 by_cases h:i % 2=0
 ·rw[if_pos h,if_pos h,UK _ m (by rw[R1];exact hm),R1,hr _ (by omega)]
 ·rw[if_neg h,if_neg h,hr _ hm]
theorem qD {L:List v4} {m:Nat} (h:m<L.length):L.take (m+1)=L.take m++ [L[m]!]:=by rw[List.take_succ_eq_append_getElem h,getElem!_pos L m h]
section
variable (w:World) (n:Nat)
theorem XD {C:C6} (hC:C.E=EN w (n+1)) (h0:C.w0.nx=0) (z:Nat) (hz:0<z) (hz2:z≤1000) (s k:Nat) (R:List (Bool × List q8)) (B:List Bool) {K:List KF} {P:A3}
  (hgo:gK C K (.exit 0) [(1,.ptr 0 0),(4,.gr 2 1 (H4 z).length),(5,.ref 2 0 z z),(6,iN z),(29,.sc (.bool false))] ⟨[(2,dX B),(1,I4 (H4 z)),(0,jB z s k R)],3,0⟩ P):
  gL C [1,4,5,6] zG K [(1,.ptr 0 0),(4,.ref 1 0 1 1),(5,.ref 2 0 z z),(6,iN 0)] ⟨[(2,dX B),(1,.row 40 7 false false (p8 (H4 0))),(0,jB z s k R)],3,0⟩ P:=by
 have hrn:C.E.rounds=x8:=by rw[hC,j8]
 refine n9 (fun m fr st=>(m=z∧fr= [(1,.ptr 0 0),(4,.ref 1 0 1 1),(5,.ref 2 0 z z),(6,iN 0)]∧st=⟨[(2,dX B),(1,.row 40 7 false false (p8 (H4 0))),(0,jB z s k R)],3,0⟩)∨
  ∃ j:Nat,m=z - j∧0<j∧j≤z∧fr= [(1,.ptr 0 0),(4,.gr 2 1 (H4 j).length),(5,.ref 2 0 z z),(6,iN j)]∧st=⟨[(2,dX B),(1,I4 (H4 j)),(0,jB z s k R)],3,0⟩) z ?_ ⟨_,_,.refl _ _,.inl ⟨rfl,rfl,rfl⟩⟩ ?_
 ·rw[hrn];unfold x8;omega
 rintro mm fr st (⟨rfl,rfl,rfl⟩|⟨j,rfl,hj0,hj,rfl,rfl⟩)
 ·rw[AQ]
  have h1:=eB 0
  rw[AQ] at h1
  simp (disch:=first|omega|exact f8|(simp only[d9]<;>omega)) only[WA,a8,b8,Nat.reduceEqDiff,Nat.reduceLT,Nat.reduceAdd,Nat.reduceBEq,Int.reduceAdd,Int.reduceSub,Int.reduceLT,Int.reduceLE,Int.reduceEq,Int.reduceNeg,↓reduceIte,reduceCtorEq,List.replicate,zG,s6]
  all_goals try (exfalso;omega)
  exact ⟨mm - 1,_,_,by omega,o7 [(2,2),(4,1),(0,0)] 3 h0 rfl rfl rfl rfl,.inr ⟨1,rfl,by omega,by omega,rfl,by simp only[I4];rw[h1];rfl⟩⟩
 by_cases hlt:j<z
 case neg=>
  have:j=z:=by omega
  subst this
  simp (disch:=first|omega|exact f8|fail) only[WA,a8,b8,Nat.reduceEqDiff,Nat.reduceLT,Nat.reduceAdd,Nat.reduceBEq,Int.reduceAdd,Int.reduceSub,Int.reduceLT,Int.reduceLE,Int.reduceEq,Int.reduceNeg,↓reduceIte,reduceCtorEq,List.replicate,zG]
  exact hgo
 have h1:=eB j
 have hl:=l7 (H4 j)
 have hcl:=aE j
 have hcl1:=aE (j+1)
 generalize H4 j=A at*
 simp (disch:=first|omega|exact f8|(simp only[d9]<;>omega)) only[WA,a8,b8,Nat.reduceEqDiff,Nat.reduceLT,Nat.reduceAdd,Nat.reduceBEq,Int.reduceAdd,Int.reduceSub,Int.reduceLT,Int.reduceLE,Int.reduceEq,Int.reduceNeg,↓reduceIte,reduceCtorEq,List.replicate,zG,s6]
 all_goals try (exfalso;omega)
 exact ⟨z - (j+1),_,_,by omega,o7 [(2,2),(4,1),(0,0)] 3 h0 rfl rfl rfl rfl,.inr ⟨j+1,rfl,by omega,by omega,by rw[hcl1,hcl];rfl,by simp only[I4];rw[h1];rfl⟩⟩
theorem aI3 {C:C6} (hC:C.E=EN w (n+1)) (h0:C.w0.nx=0) (z:Nat) (s k:Nat) (R:List (Bool × List q8)) (i:Nat) (hi:i<1000000) (B:List Bool) (F:List q8) (acc:List v4) (hF:F.length=B.length) (hB:B.length=z) (hp:F.all L9=true) (hFl:F.length≤1000) (hacc:acc.length≤1000000) (v96:V) (h96:v96= .sc (.bool false)) {K:List KF} {P:A3}
  (hgo:gK C K (.exit 6) [(1,.ptr 0 0),(4,.gr 2 1 (acc++oW i (pU (decide (i % 2=1)) B F F.length)).length),(5,.ref 2 0 z z),(7,iN i),(8,tS 3 F),(10,iN F.length),(96,v96)]
   ⟨[(2,dX B),(1,I4 (acc++oW i (pU (decide (i % 2=1)) B F F.length))),(0,jB z s k R)],3,0⟩ P):
  gL C [1,4,5,7,8,10] tO K [(1,.ptr 0 0),(4,.gr 2 1 acc.length),(5,.ref 2 0 z z),(7,iN i),(8,tS 3 F),(10,iN 0)] ⟨[(2,dX B),(1,I4 acc),(0,jB z s k R)],3,0⟩ P:=by
 subst hB
 have hrn:C.E.rounds=x8:=by rw[hC,j8]
 have hfl:=v3 F
 have hdl:(oW i (pU (decide (i % 2=1)) B F F.length)).length=F.length:=by rw[IJ,R1]
 have hdg:=fun m hm=>ZZ i (decide (i % 2=1)) B F F.length m hm
 have hpar:∃ od:Bool,decide (i % 2=1)=od∧((od=false∧i % 2=0)∨(od=true∧i % 2=1))∧I6 .rem (.int .i64 i) (.int .i64 2)=some (.int .i64 (if od then 1 else 0)):=by
  rcases Nat.mod_two_eq_zero_or_one i with h|h
  ·exact ⟨false,by rw[h];rfl,.inl ⟨rfl,h⟩,YT i 0 (by rw[h];rfl)⟩
  ·exact ⟨true,by rw[h];rfl,.inr ⟨rfl,h⟩,YT i 1 (by rw[h];rfl)⟩
 obtain ⟨od,hod,hpo,hbn⟩:=hpar
 rw[hod] at hgo hdl hdg
 clear hod
 generalize oW i (pU od B F F.length)=RL at*
 refine n9 (fun m fr st=>∃ j:Nat,m=F.length - j∧j≤F.length∧fr= [(1,.ptr 0 0),(4,.gr 2 1 (acc++RL.take j).length),(5,.ref 2 0 B.length B.length),(7,iN i),(8,tS 3 F),(10,iN j)]∧
  st=⟨[(2,dX B),(1,I4 (acc++RL.take j)),(0,jB B.length s k R)],3,0⟩) F.length ?_ ⟨_,_,.refl _ _,0,by omega,Nat.zero_le _,by simp,by simp⟩ ?_
 ·rw[hrn];unfold x8;omega
 rintro mm fr st ⟨j,rfl,hj,rfl,rfl⟩
 by_cases hlt:j<F.length
 case neg=>
  have:j=F.length:=by omega
  subst this
  rw[List.take_of_length_le (by omega)]
  subst h96
  simp (disch:=first|omega|exact f8|fail) only[WA,a8,b8,Nat.reduceEqDiff,Nat.reduceLT,Nat.reduceAdd,Nat.reduceBEq,Int.reduceAdd,Int.reduceSub,Int.reduceLT,Int.reduceLE,Int.reduceEq,Int.reduceNeg,↓reduceIte,reduceCtorEq,List.replicate,tO]
  exact hgo
 have hts:=qD (L:=RL) (m:=j) (by omega)
 rw[hdg j hlt] at hts
 have hkk:(if i % 2=0 then F.length - 1 - j else j)<F.length:=by split<;>omega
 have hkd:(i % 2=0→(if i % 2=0 then F.length - 1 - j else j)=F.length - 1 - j)∧(i % 2=1→(if i % 2=0 then F.length - 1 - j else j)=j):=⟨fun h=>if_pos h,fun h=>if_neg (by omega)⟩
 generalize (if i % 2=0 then F.length - 1 - j else j)=kk at*
 have hsn:=U5 (acc++RL.take j) (rwI od B F kk)
 rw[List.append_assoc,← hts] at hsn
 have hl1:(acc++RL.take (j+1)).length=(acc++RL.take j).length+1:=by rw[hts,← List.append_assoc,List.length_append];rfl
 have hl0:(acc++RL.take j).length≤1001000:=by rw[List.length_append,List.length_take];omega
 have hal:=l7 (acc++RL.take j)
 unfold rwI at hsn
 simp only at hsn
 have hat:=wX F _ hkk
 have hba:=sD B _ (by rw[← hF];exact hkk)
 have hpj:L9 F[kk]! =true:=List.all_eq_true.1 hp _ (by rw[getElem!_pos F _ hkk];exact List.getElem_mem hkk)
 have hbl:=mM B
 clear hts hgo hdg
 generalize bN B[kk]! =b1 at*
 generalize F[kk]! =x at*
 obtain ⟨xk,xp,xa,xb⟩:=x
 have hk:xk=1∨xk=8:=by simpa [L9] using hpj
 simp only at hsn hat
 rcases hpo with ⟨rfl,h2⟩|⟨rfl,h2⟩
 ·have hix:((F.length:Int) - 1 - j)=(kk:Int):=by have:=hkd.1 h2;omega
  rcases hk with rfl|rfl
  ·simp only[if_true] at hsn
   simp (disch:=first|omega|exact f8|(simp only[d9]<;>omega)) only[WA,a8,b8,Nat.reduceEqDiff,Nat.reduceLT,Nat.reduceAdd,Nat.reduceBEq,Int.reduceAdd,Int.reduceSub,Int.reduceLT,Int.reduceLE,Int.reduceEq,Int.reduceNeg,↓reduceIte,reduceCtorEq,List.replicate,tO,hbn,hat,hba,s6,hix]
   all_goals try (exfalso;omega)
   exact ⟨F.length - (j+1),_,_,by omega,o7 [(2,2),(5,1),(0,0)] 3 h0 rfl rfl rfl rfl,j+1,rfl,by omega,by rw[hl1];rfl,by simp only[I4];rw[hsn];rfl⟩
  ·simp only[show ¬ (8:Nat)=1 by decide,if_false] at hsn
   simp (disch:=first|omega|exact f8|(simp only[d9]<;>omega)) only[WA,a8,b8,Nat.reduceEqDiff,Nat.reduceLT,Nat.reduceAdd,Nat.reduceBEq,Int.reduceAdd,Int.reduceSub,Int.reduceLT,Int.reduceLE,Int.reduceEq,Int.reduceNeg,↓reduceIte,reduceCtorEq,List.replicate,tO,hbn,hat,hba,s6,hix]
   all_goals try (exfalso;omega)
   exact ⟨F.length - (j+1),_,_,by omega,o7 [(2,2),(5,1),(0,0)] 3 h0 rfl rfl rfl rfl,j+1,rfl,by omega,by rw[hl1];rfl,by simp only[I4];rw[hsn];rfl⟩
 ·have hjk:=hkd.2 h2
  subst hjk
  rcases hk with rfl|rfl
  ·simp only[if_true] at hsn
   simp (disch:=first|omega|exact f8|(simp only[d9]<;>omega)) only[WA,a8,b8,Nat.reduceEqDiff,Nat.reduceLT,Nat.reduceAdd,Nat.reduceBEq,Int.reduceAdd,Int.reduceSub,Int.reduceLT,Int.reduceLE,Int.reduceEq,Int.reduceNeg,↓reduceIte,reduceCtorEq,List.replicate,tO,hbn,hat,hba,s6]
   all_goals try (exfalso;omega)
   exact ⟨F.length - (kk+1),_,_,by omega,o7 [(2,2),(5,1),(0,0)] 3 h0 rfl rfl rfl rfl,kk+1,rfl,by omega,by rw[hl1];rfl,by simp only[I4];rw[hsn];rfl⟩
  ·simp only[show ¬ (8:Nat)=1 by decide,if_false] at hsn
   simp (disch:=first|omega|exact f8|(simp only[d9]<;>omega)) only[WA,a8,b8,Nat.reduceEqDiff,Nat.reduceLT,Nat.reduceAdd,Nat.reduceBEq,Int.reduceAdd,Int.reduceSub,Int.reduceLT,Int.reduceLE,Int.reduceEq,Int.reduceNeg,↓reduceIte,reduceCtorEq,List.replicate,tO,hbn,hat,hba,s6]
   all_goals try (exfalso;omega)
   exact ⟨F.length - (kk+1),_,_,by omega,o7 [(2,2),(5,1),(0,0)] 3 h0 rfl rfl rfl rfl,kk+1,rfl,by omega,by rw[hl1];rfl,by simp only[I4];rw[hsn];rfl⟩
end
theorem wr0:IntKind.u8.wrap 0=0:=rfl
theorem wr1:IntKind.u8.wrap 1=1:=rfl
section
variable (w:World) (n:Nat)
theorem aT7 {C:C6} (hC:C.E=EN w (n+1)) (h0:C.w0.nx=0) (z:Nat) (s k:Nat) (R:List (Bool × List q8)) (i:Nat) (B:List Bool) (F:List q8) (acc:List v4) (hF:F.length=B.length) (hB:B.length=z) (hp:F.all L9=true) (hFl:F.length≤1000) (hacc:acc.length≤1000000) (v96:V) (h96:v96= .sc (.bool false)) {K:List KF} {P:A3}
  (hgo:gK C K (.exit 4) [(1,.ptr 0 0),(4,.gr 2 1 (acc++xf B F F.length).length),(5,.ref 2 0 z z),(7,iN i),(8,tS 3 F),(9,iN F.length),(53,v96)]
   ⟨[(2,dX (y7 B F F.length)),(1,I4 (acc++xf B F F.length)),(0,jB z s k R)],3,0⟩ P):
  gL C [1,4,5,7,8,9] qN K [(1,.ptr 0 0),(4,.gr 2 1 acc.length),(5,.ref 2 0 z z),(7,iN i),(8,tS 3 F),(9,iN 0)] ⟨[(2,dX B),(1,I4 acc),(0,jB z s k R)],3,0⟩ P:=by
 subst hB
 have hrn:C.E.rounds=x8:=by rw[hC,j8]
 have hfl:=v3 F
 refine n9 (fun m fr st=>∃ j:Nat,m=F.length - j∧j≤F.length∧fr= [(1,.ptr 0 0),(4,.gr 2 1 (acc++xf B F j).length),(5,.ref 2 0 B.length B.length),(7,iN i),(8,tS 3 F),(9,iN j)]∧
  st=⟨[(2,dX (y7 B F j)),(1,I4 (acc++xf B F j)),(0,jB B.length s k R)],3,0⟩) F.length ?_ ⟨_,_,.refl _ _,0,by omega,Nat.zero_le _,by simp[xf],by simp[xf,yY]⟩ ?_
 ·rw[hrn];unfold x8;omega
 rintro mm fr st ⟨j,rfl,hj,rfl,rfl⟩
 by_cases hlt:j<F.length
 case neg=>
  have:j=F.length:=by omega
  subst this
  subst h96
  simp (disch:=first|omega|exact f8|fail) only[WA,a8,b8,Nat.reduceEqDiff,Nat.reduceLT,Nat.reduceAdd,Nat.reduceBEq,Int.reduceAdd,Int.reduceSub,Int.reduceLT,Int.reduceLE,Int.reduceEq,Int.reduceNeg,↓reduceIte,reduceCtorEq,List.replicate,qN]
  exact hgo
 have hjB:j<B.length:=by omega
 have hat0:=wX F j hlt
 have hat1:=aL5 F j hlt
 have hb1:=sD (y7 B F j) j (by rw[F1];exact hjB)
 rw[DS B F j hjB] at hb1
 have hbl:=mM (y7 B F j)
 rw[F1] at hbl
 have hal:=l7 (acc++xf B F j)
 have hxl:=yA B F j
 have hxs:(acc++xf B F j).length≤1001000:=by rw[List.length_append];omega
 have hbset:=fun b=>HG (y7 B F j) j b
 have hkn:=yX B F j hjB
 have hslp:=oN B F j hjB
 have hxy:=aP2 B F j
 have hxn:=bD1 B F j
 have hpj:L9 F[j]! =true:=List.all_eq_true.1 hp _ (by rw[getElem!_pos F j hlt];exact List.getElem_mem hlt)
 have hsn:=U5 (acc++xf B F j) (xfI B j)
 unfold xfI at hsn
 simp only at hsn
 unfold xfP at hxy hxn
 clear hgo
 have hsame:∀ b:Bool,B[j]! =b→(y7 B F j).set j b=y7 B F j:=fun b hb=>eH (by simp) fun q hq=>by
  rw[F1] at hq
  rw[UO _ _ _ _ (by rw[F1];exact hq)]
  by_cases e:j=q
  ·subst e;rw[if_pos rfl,DS B F j hjB,hb]
  ·rw[if_neg e]
 generalize hbb:B[j]! =b0 at*
 generalize F[j]! =x at*
 obtain ⟨xk,xp,xa,xb⟩:=x
 have hk:xk=1∨xk=8:=by simpa [L9] using hpj
 simp only at hat0 hat1 hkn hslp hxy hxn
 rcases hk with rfl|rfl
 ·have hkn':=hkn rfl
  simp only[decide_true,Bool.true_and] at hxy hxn
  have hst:=hbset xp
  cases xp<;>cases b0
  ·have hx0:=hxn rfl
   rw[hsame false rfl] at hkn'
   have hb0:B4 (J6 (y7 B F j)) j none=some (.sc (.int .u8 0)):=hb1
   simp (disch:=first|omega|exact f8|fail) only[WA,a8,b8,Nat.reduceEqDiff,Nat.reduceLT,Nat.reduceAdd,Nat.reduceBEq,Int.reduceAdd,Int.reduceSub,Int.reduceLT,Int.reduceLE,Int.reduceEq,Int.reduceNeg,↓reduceIte,reduceCtorEq,List.replicate,qN,hat0,hat1,hb0,pC,pB]
   all_goals try (exfalso;omega)
   exact ⟨F.length - (j+1),_,_,by omega,.refl _ _,j+1,rfl,by omega,by rw[hx0];rfl,by rw[hx0,hkn']⟩
  ·have hx0:=hxy rfl
   have hb0:B4 (J6 (y7 B F j)) j none=some (.sc (.int .u8 1)):=hb1
   have hs0:(J6 (y7 B F j)).set j (.sc (.int .u8 0))=J6 (y7 B F (j+1)):=by rw[hkn'];exact hst
   have hl1:(acc++xf B F (j+1)).length=(acc++xf B F j).length+1:=by rw[hx0,← List.append_assoc,List.length_append];rfl
   have hsn2:p8 (acc++xf B F (j+1))=p8 (acc++xf B F j)++ [.sc (.int .u8 7),.sc (.bool false),.sc (.int .u8 1),.sc (.int .i64 j),.sc (.int .i64 j),.sc (.int .i64 0),.sc (.int .i64 0)]:=by
    rw[hx0,← List.append_assoc]
    unfold xfI
    rw[hbb]
    exact hsn
   simp (disch:=first|omega|exact f8|(simp only[d9]<;>omega)) only[WA,a8,b8,Nat.reduceEqDiff,Nat.reduceLT,Nat.reduceAdd,Nat.reduceBEq,Int.reduceAdd,Int.reduceSub,Int.reduceLT,Int.reduceLE,Int.reduceEq,Int.reduceNeg,↓reduceIte,reduceCtorEq,List.replicate,qN,hat0,hat1,hb0,pC,pB,s6,wr0,wr1,hs0]
   all_goals try (exfalso;omega)
   exact ⟨F.length - (j+1),_,_,by omega,o7 [(2,2),(4,1),(0,0)] 3 h0 rfl rfl rfl rfl,j+1,rfl,by omega,by rw[hl1];rfl,by simp only[I4];rw[hsn2];rfl⟩
  ·have hx0:=hxy rfl
   have hb0:B4 (J6 (y7 B F j)) j none=some (.sc (.int .u8 0)):=hb1
   have hs0:(J6 (y7 B F j)).set j (.sc (.int .u8 1))=J6 (y7 B F (j+1)):=by rw[hkn'];exact hst
   have hl1:(acc++xf B F (j+1)).length=(acc++xf B F j).length+1:=by rw[hx0,← List.append_assoc,List.length_append];rfl
   have hsn2:p8 (acc++xf B F (j+1))=p8 (acc++xf B F j)++ [.sc (.int .u8 7),.sc (.bool false),.sc (.int .u8 0),.sc (.int .i64 j),.sc (.int .i64 j),.sc (.int .i64 0),.sc (.int .i64 0)]:=by
    rw[hx0,← List.append_assoc]
    unfold xfI
    rw[hbb]
    exact hsn
   simp (disch:=first|omega|exact f8|(simp only[d9]<;>omega)) only[WA,a8,b8,Nat.reduceEqDiff,Nat.reduceLT,Nat.reduceAdd,Nat.reduceBEq,Int.reduceAdd,Int.reduceSub,Int.reduceLT,Int.reduceLE,Int.reduceEq,Int.reduceNeg,↓reduceIte,reduceCtorEq,List.replicate,qN,hat0,hat1,hb0,pC,pB,s6,wr0,wr1,hs0]
   all_goals try (exfalso;omega)
   exact ⟨F.length - (j+1),_,_,by omega,o7 [(2,2),(4,1),(0,0)] 3 h0 rfl rfl rfl rfl,j+1,rfl,by omega,by rw[hl1];rfl,by simp only[I4];rw[hsn2];rfl⟩
  ·have hx0:=hxn rfl
   rw[hsame true rfl] at hkn'
   have hb0:B4 (J6 (y7 B F j)) j none=some (.sc (.int .u8 1)):=hb1
   simp (disch:=first|omega|exact f8|(simp only[d9]<;>omega)) only[WA,a8,b8,Nat.reduceEqDiff,Nat.reduceLT,Nat.reduceAdd,Nat.reduceBEq,Int.reduceAdd,Int.reduceSub,Int.reduceLT,Int.reduceLE,Int.reduceEq,Int.reduceNeg,↓reduceIte,reduceCtorEq,List.replicate,qN,hat0,hat1,hb0,pC,pB]
   all_goals try (exfalso;omega)
   exact ⟨F.length - (j+1),_,_,by omega,.refl _ _,j+1,rfl,by omega,by rw[hx0];rfl,by rw[hx0,hkn']⟩
 ·have hkn':=hslp (by decide)
  have hx0:=hxn rfl
  simp (disch:=first|omega|exact f8|fail) only[WA,a8,b8,Nat.reduceEqDiff,Nat.reduceLT,Nat.reduceAdd,Nat.reduceBEq,Int.reduceAdd,Int.reduceSub,Int.reduceLT,Int.reduceLE,Int.reduceEq,Int.reduceNeg,↓reduceIte,reduceCtorEq,List.replicate,qN,hat0,hat1]
  all_goals try (exfalso;omega)
  exact ⟨F.length - (j+1),_,_,by omega,.refl _ _,j+1,rfl,by omega,by rw[hx0];rfl,by rw[hx0,hkn']⟩
theorem XE {C:C6} (hC:C.E=EN w (n+4)) (h0:C.w0.nx=0) (z:Nat) (hz:0<z) (hz2:z≤101) (s k:Nat) (R:List (Bool × List q8)) (hK:bT R) (hck:fV ((z:Int),R)=0) (hpl:dD R=true) {K:List KF} {P:A3}
  (hgo:∀ B:List Bool,gK C K (.exit 2) [(1,.ptr 0 0),(4,.gr 2 1 (Y6 z R).length),(5,.ref 2 0 z z),(7,iN R.length),(41,.sc (.bool false))] ⟨[(2,dX B),(1,I4 (Y6 z R)),(0,jB z s k R)],3,0⟩ P):
  gL C [1,4,5,7] HN K [(1,.ptr 0 0),(4,.gr 2 1 (H4 z).length),(5,.ref 2 0 z z),(7,iN 0)] ⟨[(2,dX (List.replicate z false)),(1,I4 (H4 z)),(0,jB z s k R)],3,0⟩ P:=by
 have hrn:C.E.rounds=x8:=by rw[hC,j8]
 have hR:=(eC hck).1
 simp only at hR
 have hrl:=E6 k R
 refine n9 (fun m fr st=>∃ (i:Nat) (B:List Bool) (acc:List v4),m=R.length - i∧i≤R.length∧B.length=z∧Y6 z R=acc++rN i B (R.drop i)∧acc.length≤102+i*202∧
  fr= [(1,.ptr 0 0),(4,.gr 2 1 acc.length),(5,.ref 2 0 z z),(7,iN i)]∧st=⟨[(2,dX B),(1,I4 acc),(0,jB z s k R)],3,0⟩) R.length ?_ ⟨_,_,.refl _ _,0,List.replicate z false,H4 z,by omega,Nat.zero_le _,by simp,rfl,by rw[aE];omega,rfl,rfl⟩ ?_
 ·rw[hrn];unfold x8;omega
 rintro mm fr st ⟨i,B,acc,rfl,hi,hB,hinv,hacc,rfl,rfl⟩
 by_cases hlt:i<R.length
 case neg=>
  have:i=R.length:=by omega
  subst this
  have e:Y6 z R=acc:=by rw[hinv,List.drop_length,rN,List.append_nil]
  have hgo:=hgo B
  rw[e] at hgo
  simp (disch:=first|omega|exact f8|fail) only[WA,a8,b8,Nat.reduceEqDiff,Nat.reduceLT,Nat.reduceAdd,Nat.reduceBEq,Int.reduceAdd,Int.reduceSub,Int.reduceLT,Int.reduceLE,Int.reduceEq,Int.reduceNeg,↓reduceIte,reduceCtorEq,List.replicate,HN]
  exact hgo
 have hlen:=LV hck hpl hlt
 have hFl:=CE R[i]!
 rw[hlen] at hFl
 have hFp:=CF (LW hpl hlt)
 rw[wG hlt,← List.append_assoc] at hinv
 have hrw:=LT i B (H0 R[i]!)
 have hri:sA i B (H0 R[i]!)=xf B (H0 R[i]!) (H0 R[i]!).length++oW i (pU (decide (i % 2=1)) (y7 B (H0 R[i]!) (H0 R[i]!).length) (H0 R[i]!) (H0 R[i]!).length):=rfl
 have hag:=jW k R i hlt
 have hk2:=(hK.at hlt).1
 generalize R[i]! =r at*
 obtain ⟨b,L⟩:=r
 simp only at hag hk2 hlen
 have hse:=bH8 w (n+1) k b L (by omega) hk2
 generalize H0 (b,L)=F at*
 simp (disch:=first|omega|exact f8|fail) only[WA,a8,b8,Nat.reduceEqDiff,Nat.reduceLT,Nat.reduceAdd,Nat.reduceBEq,Int.reduceAdd,Int.reduceSub,Int.reduceLT,Int.reduceLE,Int.reduceEq,Int.reduceNeg,↓reduceIte,reduceCtorEq,List.replicate,HN,hag]
 all_goals try (exfalso;omega)
 refine M3 (by rw[hC];exact hse) rfl rfl (fun _=>rfl) ?_
 repeat' (first|(simp (disch:=fail) only[WA,a8,b8,Nat.reduceEqDiff,Nat.reduceLT,Nat.reduceAdd,Nat.reduceBEq,Int.reduceAdd,Int.reduceSub,Int.reduceLT,Int.reduceLE,Int.reduceEq,Int.reduceNeg,↓reduceIte,reduceCtorEq,List.replicate])|apply C3|((first|apply N9|apply D4|apply I8|apply O0|apply N8|apply I9)<;>intro _))
 refine aT7 w (n+3) hC h0 z s k R i B F acc (by omega) hB hFp (by omega) (by omega) _ rfl ?_
 simp (disch:=first|exact f8|fail) only[WA,a8,b8,Nat.reduceEqDiff,Nat.reduceLT,Nat.reduceAdd,Nat.reduceBEq,Int.reduceAdd,Int.reduceSub,Int.reduceLT,Int.reduceLE,Int.reduceEq,Int.reduceNeg,↓reduceIte,reduceCtorEq,List.replicate]
 have hxl:=yA B F F.length
 have hbq:=F1 B F F.length
 rw[hB] at hbq
 have hal2:(acc++xf B F F.length).length≤21000:=by rw[List.length_append];omega
 refine aI3 w (n+3) hC h0 z s k R i (by omega) (y7 B F F.length) F (acc++xf B F F.length) (by omega) hbq hFp (by omega) (by omega) _ rfl ?_
 rw[List.append_assoc acc,← hri]
 simp (disch:=first|omega|exact f8|fail) only[WA,a8,b8,Nat.reduceEqDiff,Nat.reduceLT,Nat.reduceAdd,Nat.reduceBEq,Int.reduceAdd,Int.reduceSub,Int.reduceLT,Int.reduceLE,Int.reduceEq,Int.reduceNeg,↓reduceIte,reduceCtorEq,List.replicate]
 exact ⟨R.length - (i+1),_,_,by omega,.refl _ _,i+1,y7 B F F.length,acc++sA i B F,rfl,by omega,hbq,hinv,by rw[List.length_append];omega,rfl,rfl⟩
theorem PO (s k:Nat) (zi:Int) (R:List (Bool × List q8)) (hR:R.length≤140737488351232) (hK:bT R) (h0R:zi=0→R= []):n5 (EN w (n+6)) 29 [cM s k (zi,R)] (jfV (mQ (zi,R))) ⟨[],0,0⟩:=by
 have hrl:=E6 k R
 have hck:=PN w n s k (zi,R) hR hK
 have hpl:=aJ7 w (n+4) s k zi R hR hK
 unfold mQ
 refine N2 rfl rfl (fun _ _=>rfl) (Nat.le_of_ble_eq_true rfl) (k9 w) jT rfl fun C hC h0=>?_
 by_cases e1:fV (zi,R)=0
 case neg=>
  rw[if_pos e1]
  generalize fV (zi,R)=E at*
  simp (disch:=first|exact f8|fail) only[WA,a8,b8,Nat.reduceEqDiff,Nat.reduceLT,Nat.reduceAdd,Nat.reduceBEq,Int.reduceAdd,Int.reduceSub,Int.reduceLT,Int.reduceLE,Int.reduceEq,Int.reduceNeg,↓reduceIte,reduceCtorEq,List.replicate,c29]
  refine a9 (by rw[hC];exact hck.flat rfl rfl) ?_
  simp (disch:=first|exact f8|(simp only[d9]<;>omega)) only[WA,a8,b8,Nat.reduceEqDiff,Nat.reduceLT,Nat.reduceAdd,Nat.reduceBEq,Int.reduceAdd,Int.reduceSub,Int.reduceLT,Int.reduceLE,Int.reduceEq,Int.reduceNeg,↓reduceIte,reduceCtorEq,List.replicate,e1]
  refine a9 (by rw[hC];exact hck.flat rfl rfl) ?_
  repeat' (first|(simp (disch:=fail) only[WA,a8,b8,Nat.reduceEqDiff,Nat.reduceLT,Nat.reduceAdd,Nat.reduceBEq,Int.reduceAdd,Int.reduceSub,Int.reduceLT,Int.reduceLE,Int.reduceEq,Int.reduceNeg,↓reduceIte,reduceCtorEq,List.replicate])|apply C3|((first|apply N9|apply D4|apply I8|apply O0|apply N8|apply I9)<;>intro _))
  exact O6 h0 rfl
 rw[if_neg (fun h=>h e1)]
 rw[e1] at hck
 by_cases e2:FO (zi,R)=true
 case neg=>
  rw[if_neg e2]
  rw[Bool.not_eq_true] at e2
  rw[e2] at hpl
  simp (disch:=first|exact f8|fail) only[WA,a8,b8,Nat.reduceEqDiff,Nat.reduceLT,Nat.reduceAdd,Nat.reduceBEq,Int.reduceAdd,Int.reduceSub,Int.reduceLT,Int.reduceLE,Int.reduceEq,Int.reduceNeg,↓reduceIte,reduceCtorEq,List.replicate,c29]
  refine a9 (by rw[hC];exact hck.flat rfl rfl) ?_
  simp (disch:=first|exact f8|fail) only[WA,a8,b8,Nat.reduceEqDiff,Nat.reduceLT,Nat.reduceAdd,Nat.reduceBEq,Int.reduceAdd,Int.reduceSub,Int.reduceLT,Int.reduceLE,Int.reduceEq,Int.reduceNeg,↓reduceIte,reduceCtorEq,List.replicate]
  refine a9 (by rw[hC];exact hpl.flat rfl rfl) ?_
  simp (disch:=first|exact f8|fail) only[WA,a8,b8,Nat.reduceEqDiff,Nat.reduceLT,Nat.reduceAdd,Nat.reduceBEq,Int.reduceAdd,Int.reduceSub,Int.reduceLT,Int.reduceLE,Int.reduceEq,Int.reduceNeg,↓reduceIte,reduceCtorEq,List.replicate]
  exact O6 h0 rfl
 rw[if_pos e2]
 rw[e2] at hpl
 have hz0:=eC e1
 simp only at hz0
 obtain ⟨z,rfl⟩:∃ z:Nat,zi=z:=⟨zi.toNat,by omega⟩
 have hpz:dD R=true∧z≤101:=by
  unfold FO at e2
  simp only[Bool.and_eq_true,decide_eq_true_eq] at e2
  exact ⟨e2.1,by omega⟩
 simp only[Int.toNat_natCast]
 have h1:=AQ
 by_cases hz:z=0
 ·subst hz
  have hRn:=h0R rfl
  subst hRn
  have hcl:Y6 0 []= [in1]:=rfl
  rw[if_neg (by rw[hcl];decide),hcl]
  simp (disch:=first|exact f8|fail) only[WA,a8,b8,Nat.reduceEqDiff,Nat.reduceLT,Nat.reduceAdd,Nat.reduceBEq,Int.reduceAdd,Int.reduceSub,Int.reduceLT,Int.reduceLE,Int.reduceEq,Int.reduceNeg,↓reduceIte,reduceCtorEq,List.replicate,c29]
  refine a9 (by rw[hC];exact hck.flat rfl rfl) ?_
  simp (disch:=first|exact f8|fail) only[WA,a8,b8,Nat.reduceEqDiff,Nat.reduceLT,Nat.reduceAdd,Nat.reduceBEq,Int.reduceAdd,Int.reduceSub,Int.reduceLT,Int.reduceLE,Int.reduceEq,Int.reduceNeg,↓reduceIte,reduceCtorEq,List.replicate]
  refine a9 (by rw[hC];exact hpl.flat rfl rfl) ?_
  simp (disch:=first|omega|exact f8|(simp only[d9]<;>omega)) only[WA,a8,b8,Nat.reduceEqDiff,Nat.reduceLT,Nat.reduceAdd,Nat.reduceBEq,Int.reduceAdd,Int.reduceSub,Int.reduceLT,Int.reduceLE,Int.reduceEq,Int.reduceNeg,↓reduceIte,reduceCtorEq,List.replicate,s6]
  refine n9 (fun m fr st=>m=0∧fr= [(1,.ptr 0 0),(4,.ref 1 0 1 1),(5,.ref 2 0 0 0),(6,iN 0)]∧st=⟨[(2,.row 5 1 false false []),(1,.row 40 7 false false (p8 [in1])),(0,jB 0 s k [])],3,0⟩) 0 ?_ ⟨_,_,.refl _ _,rfl,rfl,rfl⟩ ?_
  ·rw[hC,j8];unfold x8;omega
  rintro m fr st ⟨rfl,rfl,rfl⟩
  simp (disch:=first|exact f8|fail) only[WA,a8,b8,Nat.reduceEqDiff,Nat.reduceLT,Nat.reduceAdd,Nat.reduceBEq,Int.reduceAdd,Int.reduceSub,Int.reduceLT,Int.reduceLE,Int.reduceEq,Int.reduceNeg,↓reduceIte,reduceCtorEq,List.replicate,zG]
  refine n9 (fun m fr st=>m=0∧fr= [(1,.ptr 0 0),(4,.ref 1 0 1 1),(5,.ref 2 0 0 0),(7,iN 0)]∧st=⟨[(2,.row 5 1 false false []),(1,.row 40 7 false false (p8 [in1])),(0,jB 0 s k [])],3,0⟩) 0 ?_ ⟨_,_,.refl _ _,rfl,rfl,rfl⟩ ?_
  ·rw[hC,j8];unfold x8;omega
  rintro m fr st ⟨rfl,rfl,rfl⟩
  simp (disch:=first|omega|exact f8|fail) only[WA,a8,b8,Nat.reduceEqDiff,Nat.reduceLT,Nat.reduceAdd,Nat.reduceBEq,Int.reduceAdd,Int.reduceSub,Int.reduceLT,Int.reduceLE,Int.reduceEq,Int.reduceNeg,↓reduceIte,reduceCtorEq,List.replicate,HN]
  exact iQ (wT rfl rfl) rfl (.inl (by decide)) h0 rfl
 ·have hmk:=fun nx t=>Z8 nx t 1 (.int .u8 0) rfl .i64 .i64 (z:Int) (z:Int) (by omega) (by omega) (by omega) (by omega)
  rw[Int.toNat_natCast,HF] at hmk
  have hlc:=l7 (Y6 z R)
  simp (disch:=first|exact f8|fail) only[WA,a8,b8,Nat.reduceEqDiff,Nat.reduceLT,Nat.reduceAdd,Nat.reduceBEq,Int.reduceAdd,Int.reduceSub,Int.reduceLT,Int.reduceLE,Int.reduceEq,Int.reduceNeg,↓reduceIte,reduceCtorEq,List.replicate,c29]
  refine a9 (by rw[hC];exact hck.flat rfl rfl) ?_
  simp (disch:=first|exact f8|fail) only[WA,a8,b8,Nat.reduceEqDiff,Nat.reduceLT,Nat.reduceAdd,Nat.reduceBEq,Int.reduceAdd,Int.reduceSub,Int.reduceLT,Int.reduceLE,Int.reduceEq,Int.reduceNeg,↓reduceIte,reduceCtorEq,List.replicate]
  refine a9 (by rw[hC];exact hpl.flat rfl rfl) ?_
  simp (disch:=first|exact f8|(simp only[d9]<;>omega)) only[WA,a8,b8,Nat.reduceEqDiff,Nat.reduceLT,Nat.reduceAdd,Nat.reduceBEq,Int.reduceAdd,Int.reduceSub,Int.reduceLT,Int.reduceLE,Int.reduceEq,Int.reduceNeg,↓reduceIte,reduceCtorEq,List.replicate,s6,hmk]
  refine XD w (n+4) hC h0 z (by omega) (by omega) s k R _ ?_
  simp (disch:=first|exact f8|fail) only[WA,a8,b8,Nat.reduceEqDiff,Nat.reduceLT,Nat.reduceAdd,Nat.reduceBEq,Int.reduceAdd,Int.reduceSub,Int.reduceLT,Int.reduceLE,Int.reduceEq,Int.reduceNeg,↓reduceIte,reduceCtorEq,List.replicate]
  refine XE w (n+1) hC h0 z (by omega) hpz.2 s k R hK e1 hpz.1 fun B=>?_
  by_cases hb:2000<(Y6 z R).length
  ·rw[if_pos hb]
   simp (disch:=first|omega|exact f8|fail) only[WA,a8,b8,Nat.reduceEqDiff,Nat.reduceLT,Nat.reduceAdd,Nat.reduceBEq,Int.reduceAdd,Int.reduceSub,Int.reduceLT,Int.reduceLE,Int.reduceEq,Int.reduceNeg,↓reduceIte,reduceCtorEq,List.replicate]
   all_goals try (exfalso;omega)
   exact O6 h0 rfl
  ·rw[if_neg hb]
   simp (disch:=first|omega|exact f8|fail) only[WA,a8,b8,Nat.reduceEqDiff,Nat.reduceLT,Nat.reduceAdd,Nat.reduceBEq,Int.reduceAdd,Int.reduceSub,Int.reduceLT,Int.reduceLE,Int.reduceEq,Int.reduceNeg,↓reduceIte,reduceCtorEq,List.replicate]
   all_goals try (exfalso;omega)
   exact iQ (bJ rfl hlc) rfl (.inl (by decide)) h0 rfl
end
def kL (i:v4):q8:=if i.op=5 then ⟨8,false,0,0⟩ else ⟨1,decide (i.bed=1),0,0⟩
def FN (n:Nat) (i:v4):Bool:=decide (0≤i.pos) && decide (i.pos<n)
def TC (i:v4):Bool:=decide (i.op=3) && i.right
def mD (i:v4):Bool:=decide (i.op=7)
def G8 (n:Nat) (A:List v4):List q8:=A.foldl (fun r i=>r.set i.pos.toNat (kL i)) (List.replicate n qA)
def nxt (n:Nat) (rest:List v4):Option (List q8 × List v4):=
 if (rest.dropWhile mD).length<n then none else if ((rest.dropWhile mD).take n).all (FN n)=true then some (G8 n ((rest.dropWhile mD).take n),(rest.dropWhile mD).drop n) else none
def GR (n:Nat):Nat→List v4→List (Bool × List q8)→Option (List (Bool × List q8))
 |0,_,acc=>some acc
 |f+1,rest,acc=>if rest= [] then some acc else match nxt n rest with
  |none=>none
  |some p=>GR n f p.2 (acc++ [(false,p.1)])
def bG (l:List v4):Nat:=((l.drop 1).takeWhile TC).length
def O3 (l:List v4):Option (List (Bool × List q8)):=if bG l=0 then some [] else GR (bG l) l.length (l.drop (1+bG l)) []
noncomputable def nV (l:List v4):QS × Int:=if 2000<l.length then ((0,[]),4) else match O3 l with
 |none=>((0,[]),12)
 |some R=>if mQ ((bG l:Int),R)=(l,0) then (((bG l:Int),R),0) else ((0,[]),12)
abbrev bB8 (p:QS × Int):V:= .tup [.agg [iN p.1.1,.sl 3 p.1.2.length (M1 0 p.1.2)],iN p.2]
theorem FP (n f:Nat) (acc:List (Bool × List q8)):GR n f [] acc=some acc:=by cases f<;>simp[GR]
theorem vW {n f:Nat} {rest:List v4} {acc:List (Bool × List q8)} (h:rest ≠ []) (hf:rest.length≤f) (hn:nxt n rest=none):GR n f rest acc=none:=by
 obtain ⟨g,rfl⟩:∃ g,f=g+1:=⟨f - 1,by have:=List.length_pos_iff.2 h;omega⟩
 simp only[GR,hn]
 rw[if_neg h]
theorem LH {n f:Nat} {rest:List v4} {acc:List (Bool × List q8)} {p:List q8 × List v4} (h:rest ≠ []) (hf:rest.length≤f) (hn:nxt n rest=some p):∃ g,f=g+1∧GR n f rest acc=GR n g p.2 (acc++ [(false,p.1)]):=by
 obtain ⟨g,rfl⟩:∃ g,f=g+1:=⟨f - 1,by have:=List.length_pos_iff.2 h;omega⟩
 refine ⟨g,rfl,?_⟩
 simp only[GR,hn]
 rw[if_neg h]
theorem T2 (n:Nat) (A:List v4):(G8 n A).length=n:=by
 unfold G8
 have:∀ (A:List v4) (r:List q8),(A.foldl (fun r i=>r.set i.pos.toNat (kL i)) r).length=r.length:=by
  intro A
  induction A with
  |nil=>intro r;rfl
  |cons x A ih=>intro r;rw[List.foldl_cons,ih,List.length_set]
 rw[this];simp
theorem BW (n:Nat) (A:List v4) (x:v4):G8 n (A++ [x])=(G8 n A).set x.pos.toNat (kL x):=by simp[G8]
theorem OM (i:v4):(kL i).kind<256:=by
 unfold kL
 split
 ·show (8:Nat)<256;decide
 ·show (1:Nat)<256;decide
theorem bH6 (n:Nat) (A:List v4):GQ (G8 n A):=by
 unfold G8
 have:∀ (A:List v4) (r:List q8),GQ r→GQ (A.foldl (fun r i=>r.set i.pos.toNat (kL i)) r):=by
  intro A
  induction A with
  |nil=>intro r h;exact h
  |cons x A ih=>
   intro r h
   rw[List.foldl_cons]
   refine ih _ fun y hy=>?_
   rcases List.mem_or_eq_of_mem_set hy with h1|rfl
   ·exact h y h1
   ·exact OM x
 exact this A _ fun y hy=>by rw[List.eq_of_mem_replicate hy];decide
theorem XT (M:List q8) (k:Nat) (hk:k≤M.length):(v8 M).take (k*4)=v8 (M.take k):=by
 have h:v8 M=v8 (M.take k)++v8 (M.drop k):=by rw[← iJ,List.take_append_drop]
 rw[h,List.take_left' (by rw[v3,List.length_take];congr 1;omega)]
theorem XS (M:List q8) (k:Nat) (hk:k≤M.length):(v8 M).drop (k*4)=v8 (M.drop k):=by
 have h:v8 M=v8 (M.take k)++v8 (M.drop k):=by rw[← iJ,List.take_append_drop]
 rw[h,List.drop_left' (by rw[v3,List.length_take];congr 1;omega)]
theorem MN (M:List q8) (k:Nat) (x:q8) (hk:k<M.length):(v8 M).take (k*4)++ [.sc (.int .u8 x.kind),.sc (.bool x.purl),.sc (.int .i64 x.a),.sc (.int .i64 x.b)]++(v8 M).drop (k*4+4)=v8 (M.set k x):=by
 rw[XT M k (by omega),show k*4+4=(k+1)*4 by omega,XS M (k+1) (by omega),← qB,← iJ,List.set_eq_take_append_cons_drop,if_pos hk]
 congr 1
 simp
theorem bK (st:n4) (o k t:Nat) (g:Bool) (l:List D) (a b c d:Value) (hro:st.ro≤o) (hk:k+4≤l.length):
  QC st 4 o k (.agg [.sc a,.sc b,.sc c,.sc d]) (some (.row t 4 g false l))=some (.tup [],⟨B5 st.own o (.row t 4 g false (l.take k++ [.sc a,.sc b,.sc c,.sc d]++l.drop (k+4))),st.next,st.ro⟩):=by
 have hv:K4 (.agg [.sc a,.sc b,.sc c,.sc d])=some [.sc a,.sc b,.sc c,.sc d]:=rfl
 simp only[QC,hv,Option.bind_some]
 rw[if_pos (show Nat.beq _ 4=true from rfl),if_neg (by simp only[Bool.not_eq_true,yF];exact hro)]
 simp only[jF,rZ,List.append_nil,m8,B0,Bool.not_true,Bool.or_false]
 rw[if_neg (by simp)]
 simp only[X5,aL,Option.bind_some,Option.map_some]
 rw[bF _ _ _ (by simpa using hk),s5]
 rfl
theorem wQ {H:D6} {o t n:Nat} {z:Bool} {l:List D} (h:i7 H o=some (.gro t 2 z l)) (hl:l.length=n*2):B1 H (.gr 2 o n)=some (.sl 2 n l):=by
 simp only[B1,aL,h]
 rw[if_pos ⟨hl,by decide,by decide,by decide⟩]
 rfl
theorem wF (k:Nat) (R:List (Bool × List q8)) (b:Bool) (L:List q8):M1 k (R++ [(b,L)])=M1 k R++ [.sc (.bool b),.sl k L.length (v8 L)]:=by simp[M1,LS]
theorem LR (nx t o:Nat) (n c:Nat) (b:Value):P7 nx t 2 1 [.bool false,.slice none 0 0] [(0,2,.agg [.sc b,.ref o 0 n c])]=some (.ref nx 0 1 1,some (.box t 2 [.sc b,.ref o 0 n c]),[]):=(rfl)
theorem MF {H:D6} {o n c t e t':Nat} {b:Value} {g z:Bool} {l:List D} (h:i7 H o=some (.row t' 4 g z l)) (hl:l.length=n*4):cH H 2 0 1 (some (.box t e [.sc b,.ref o 0 n c]))=some (1,[.sc b,.sl 0 n l],[o]):=by
 have e1:aL H (.ref o 0 n c)=some (.sl 0 n l):=by
  simp only[aL,h,Nat.zero_add,List.drop_zero]
  rw[if_pos (by omega),List.take_of_length_le (by omega)]
 simp only[cH]
 rw[if_pos (by simp)]
 simp only[List.drop_zero,Nat.one_mul,List.take_succ_cons,List.take_zero,X5,QE,e1,Option.bind_some,Option.map_some]
 rfl
theorem LU (R:List (Bool × List q8)):P1 (M1 0 R)=true:=by
 simp only[P1,List.all_eq_true]
 intro d hd
 simp only[M1,LS,List.mem_flatMap] at hd
 obtain ⟨x,_,hc⟩:=hd
 simp at hc
 rcases hc with rfl|rfl<;>rfl
theorem sP {L:List v4} {k:Nat} (hk:k<L.length) (p:v4→Bool) (h:p L[k]! =true):(L.drop k).dropWhile p=(L.drop (k+1)).dropWhile p∧((L.drop k).takeWhile p).length=((L.drop (k+1)).takeWhile p).length+1:=by
 have e:L.drop k=L[k]! ::L.drop (k+1):=by rw[List.drop_eq_getElem_cons hk,getElem!_pos L k hk]
 rw[e,List.dropWhile_cons,List.takeWhile_cons,h]
 exact ⟨rfl,rfl⟩
theorem sQ {L:List v4} {k:Nat} (hk:k<L.length) (p:v4→Bool) (h:p L[k]! =false):(L.drop k).dropWhile p=L.drop k∧((L.drop k).takeWhile p).length=0:=by
 have e:L.drop k=L[k]! ::L.drop (k+1):=by rw[List.drop_eq_getElem_cons hk,getElem!_pos L k hk]
 rw[e,List.dropWhile_cons,List.takeWhile_cons,h]
 exact ⟨rfl,rfl⟩
theorem GK {L:List v4} {k:Nat} (hk:L.length≤k) (p:v4→Bool):(L.drop k).dropWhile p=L.drop k∧((L.drop k).takeWhile p).length=0:=by
 rw[List.drop_eq_nil_of_le hk]
 exact ⟨rfl,rfl⟩
theorem Z5 (L:List v4) (k i:Nat) (hk:k<L.length) (hi:i<7):B4 (p8 L) (k*7+i) none=(bA L[k]!)[i]?.map V.sc:=by
 have:=W8 (fun a:v4=>(bA a).map D.sc) 7 L (fun _=>rfl) k i hk hi
 unfold p8
 rw[this]
 rcases (by omega:i=0∨i=1∨i=2∨i=3∨i=4∨i=5∨i=6) with rfl|rfl|rfl|rfl|rfl|rfl|rfl<;>rfl
abbrev Y3:Itp.Obj:= .box 31 1 [iN 0,.sc (.slice none 0 0)]
abbrev Y8 (R:List (Bool × List q8)):Itp.Obj:= .gro 55 2 false (M1 0 R)
abbrev MO (L:List q8):Itp.Obj:= .row 53 4 false false (v8 L)
theorem jK:rC 3=3:=rfl
section
variable (w:World) (n:Nat)
theorem aT8 {C:C6} (hC:C.E=EN w (n+1)) (h0:C.w0.nx=0) (L:List v4) (z:Nat) (st:n4) (rest:List v4) (hl:rest.length≤100000) {K:List KF} {P:A3}
  (hgo:∀ v65,gK C K (.exit 4) [(0,jS 3 L),(2,.ptr 0 0),(4,.ptr 1 0),(5,jS 3 (rest.dropWhile mD)),(6,.ref 3 0 z z),(65,v65)] st P):
  gL C [0,2,4,5,6] ZH K [(0,jS 3 L),(2,.ptr 0 0),(4,.ptr 1 0),(5,jS 3 rest),(6,.ref 3 0 z z)] st P:=by
 have hrn:C.E.rounds=x8:=by rw[hC,j8]
 refine n9 (fun m fr s=>∃ k:Nat,m=rest.length - k∧k≤rest.length∧(rest.drop k).dropWhile mD=rest.dropWhile mD∧fr= [(0,jS 3 L),(2,.ptr 0 0),(4,.ptr 1 0),(5,jS 3 (rest.drop k)),(6,.ref 3 0 z z)]∧s=st) rest.length ?_ ⟨_,_,.refl _ _,0,by omega,Nat.zero_le _,rfl,rfl,rfl⟩ ?_
 ·rw[hrn];unfold x8;omega
 rintro m fr s ⟨k,rfl,hk,hinv,rfl,rfl⟩
 by_cases hlt:k<rest.length
 case neg=>
  have e:=(GK (L:=rest) (k:=k) (by omega) mD).1
  rw[hinv] at e
  rw[← e]
  have hd:(rest.dropWhile mD).length=0:=by rw[e,List.length_drop];omega
  generalize rest.dropWhile mD=T at*
  obtain rfl:=List.eq_nil_of_length_eq_zero hd
  simp (disch:=first|omega|assumption|exact f8|exact Or.inl rfl|exact Or.inl trivial|exact j6 _ (fun _=>rfl) _|(simp only[d9]<;>omega)|fail) only[WA,a8,b8,Nat.reduceEqDiff,Nat.reduceLT,Nat.reduceAdd,Nat.reduceBEq,Int.reduceAdd,Int.reduceSub,Int.reduceLT,Int.reduceLE,Int.reduceEq,Int.reduceNeg,↓reduceIte,reduceCtorEq,List.replicate,ZH]
  exact hgo _
 have hdl:(rest.drop k).length=rest.length - k:=List.length_drop
 have hil:=l7 (rest.drop k)
 have a0:=Z5 (rest.drop k) 0 0 (by rw[hdl];omega) (by decide)
 have hg0:(rest.drop k)[0]! =rest[k]! :=dW rest k 0 (by omega)
 rw[hg0] at a0
 have hpb:=I0 (rest.drop k) 1 (by rw[hdl];omega)
 rw[List.drop_drop,hdl] at hpb
 have hdl1:(rest.drop (k+1)).length=rest.length - k - 1:=by rw[List.length_drop];omega
 rw[hdl] at hil
 by_cases h7:rest[k]!.op=7
 ·have hs:=(sP hlt mD (decide_eq_true h7)).1
  generalize rest[k]! =x at*
  obtain ⟨xo,xr,xb,xp,xt,xc,xk⟩:=x
  simp only[bA,Nat.zero_mul,Nat.zero_add,List.getElem?_cons_zero,Option.map_some] at a0
  simp only at h7
  subst h7
  unfold jS
  rw[hdl]
  simp (disch:=first|omega|assumption|exact f8|exact Or.inl rfl|exact Or.inl trivial|exact j6 _ (fun _=>rfl) _|(simp only[d9]<;>omega)|fail) only[WA,a8,b8,Nat.reduceEqDiff,Nat.reduceLT,Nat.reduceAdd,Nat.reduceBEq,Int.reduceAdd,Int.reduceSub,Int.reduceLT,Int.reduceLE,Int.reduceEq,Int.reduceNeg,↓reduceIte,reduceCtorEq,List.replicate,ZH,tn0,a0,hpb,Nat.zero_mul,Nat.zero_add,Nat.one_mul,jK,tn1]
  all_goals try (exfalso;omega)
  exact ⟨rest.length - (k+1),_,_,by omega,.refl _ _,k+1,rfl,by omega,by rw[← hs];exact hinv,by rw[hdl1],rfl⟩
 ·have hs:=(sQ hlt mD (decide_eq_false h7)).1
  rw[hinv] at hs
  rw[hs] at hgo
  generalize rest[k]! =x at*
  obtain ⟨xo,xr,xb,xp,xt,xc,xk⟩:=x
  simp only[bA,Nat.zero_mul,Nat.zero_add,List.getElem?_cons_zero,Option.map_some] at a0
  simp only at h7
  have h7':((xo:Nat):Int) ≠ 7:=by omega
  unfold jS at hgo ⊢
  rw[hdl] at hgo ⊢
  simp (disch:=first|omega|assumption|exact f8|exact Or.inl rfl|exact Or.inl trivial|exact j6 _ (fun _=>rfl) _|(simp only[d9]<;>omega)|fail) only[WA,a8,b8,Nat.reduceEqDiff,Nat.reduceLT,Nat.reduceAdd,Nat.reduceBEq,Int.reduceAdd,Int.reduceSub,Int.reduceLT,Int.reduceLE,Int.reduceEq,Int.reduceNeg,↓reduceIte,reduceCtorEq,List.replicate,ZH,tn0,a0,Nat.zero_mul,Nat.zero_add]
  all_goals try (exfalso;omega)
  exact hgo _
theorem bH2 {C:C6} (hC:C.E=EN w (n+1)) (h0:C.w0.nx=0) (L:List v4) (z:Nat) (hz:z≤2000) (rest A:List v4) (hA:A.length=z) (rows:List (Bool × List q8)) {K:List KF} {P:A3}
  (hbad:¬ A.all (FN z)=true→∀ st,i7 st.own 0=some Y3→st.ro=0→gK C K .ret [(2,.ptr 0 0),(3,iN 12)] st P)
  (hgo:A.all (FN z)=true→∀ v80,gK C K (.exit 6) [(0,jS 3 L),(2,.ptr 0 0),(4,.ptr 1 0),(5,jS 3 rest),(6,.ref 3 0 z z),(77,jS 3 A),(78,iN z),(79,iN z),(80,v80)] ⟨[(3,MO (G8 z A)),(2,Y8 rows),(1,.box 31 1 [iN z,.gr 2 2 rows.length]),(0,Y3)],4,0⟩ P):
  gL C [0,2,4,5,6,77,78,79] HT K [(0,jS 3 L),(2,.ptr 0 0),(4,.ptr 1 0),(5,jS 3 rest),(6,.ref 3 0 z z),(77,jS 3 A),(78,iN z),(79,iN 0)] ⟨[(3,MO (G8 z [])),(2,Y8 rows),(1,.box 31 1 [iN z,.gr 2 2 rows.length]),(0,Y3)],4,0⟩ P:=by
 have hrn:C.E.rounds=x8:=by rw[hC,j8]
 have hil:=l7 A
 refine n9 (fun m fr s=>∃ k:Nat,m=z - k∧k≤z∧(A.take k).all (FN z)=true∧fr= [(0,jS 3 L),(2,.ptr 0 0),(4,.ptr 1 0),(5,jS 3 rest),(6,.ref 3 0 z z),(77,jS 3 A),(78,iN z),(79,iN k)]∧s=⟨[(3,MO (G8 z (A.take k))),(2,Y8 rows),(1,.box 31 1 [iN z,.gr 2 2 rows.length]),(0,Y3)],4,0⟩) z ?_ ⟨_,_,.refl _ _,0,by omega,Nat.zero_le _,rfl,rfl,rfl⟩ ?_
 ·rw[hrn];unfold x8;omega
 rintro m fr s ⟨k,rfl,hk,hall,rfl,rfl⟩
 by_cases hlt:k<A.length
 case neg=>
  have:k=z:=by omega
  subst this
  rw[List.take_of_length_le (by omega)] at hall ⊢
  have hgo:=hgo hall
  simp (disch:=first|omega|assumption|exact f8|exact Or.inl rfl|exact Or.inl trivial|exact j6 _ (fun _=>rfl) _|(simp only[d9]<;>omega)|fail) only[WA,a8,b8,Nat.reduceEqDiff,Nat.reduceLT,Nat.reduceAdd,Nat.reduceBEq,Int.reduceAdd,Int.reduceSub,Int.reduceLT,Int.reduceLE,Int.reduceEq,Int.reduceNeg,↓reduceIte,reduceCtorEq,List.replicate,HT]
  exact hgo _
 have hag:=H7 A k hlt
 have hts:=qD hlt
 have hrs:=BW z (A.take k) A[k]!
 rw[← hts] at hrs
 have A1:=MN (G8 z (A.take k)) A[k]!.pos.toNat (kL A[k]!)
 rw[T2] at A1
 have hrl:=v3 (G8 z (A.take k))
 rw[T2] at hrl
 rw[← hrs] at A1
 have hb2:FN z A[k]! =false→¬ A.all (FN z)=true:=fun h=>by rw[tA hlt h];decide
 have hn2:FN z A[k]! =true→(A.take (k+1)).all (FN z)=true:=fun h=>kE hlt hall h
 unfold FN at hb2 hn2
 generalize A[k]! =x at*
 obtain ⟨xo,xr,xb,xp,xt,xc,xk⟩:=x
 unfold Z6 at hag
 simp only[bA,List.map_cons,List.map_nil] at hag
 simp only at A1 hb2 hn2
 by_cases p1:xp<0
 ·have hbad:=hbad (hb2 (by rw[decide_eq_false (by omega)];rfl))
  simp (disch:=first|omega|assumption|exact f8|exact Or.inl rfl|exact Or.inl trivial|exact j6 _ (fun _=>rfl) _|(simp only[d9]<;>omega)|fail) only[WA,a8,b8,Nat.reduceEqDiff,Nat.reduceLT,Nat.reduceAdd,Nat.reduceBEq,Int.reduceAdd,Int.reduceSub,Int.reduceLT,Int.reduceLE,Int.reduceEq,Int.reduceNeg,↓reduceIte,reduceCtorEq,List.replicate,HT,hag]
  all_goals try (exfalso;omega)
  exact hbad _ rfl rfl
 by_cases p2:xp<z
 case neg=>
  have hbad:=hbad (hb2 (by rw[decide_eq_false p2];simp))
  simp (disch:=first|omega|assumption|exact f8|exact Or.inl rfl|exact Or.inl trivial|exact j6 _ (fun _=>rfl) _|(simp only[d9]<;>omega)|fail) only[WA,a8,b8,Nat.reduceEqDiff,Nat.reduceLT,Nat.reduceAdd,Nat.reduceBEq,Int.reduceAdd,Int.reduceSub,Int.reduceLT,Int.reduceLE,Int.reduceEq,Int.reduceNeg,↓reduceIte,reduceCtorEq,List.replicate,HT,hag]
  all_goals try (exfalso;omega)
  exact hbad _ rfl rfl
 have hall2:=hn2 (by rw[decide_eq_true p2,decide_eq_true (by omega)];rfl)
 obtain ⟨q,rfl⟩:∃ q:Nat,xp=q:=⟨xp.toNat,by omega⟩
 have A1:=A1 (by omega)
 simp only[Int.toNat_natCast] at A1
 clear hgo hbad hb2 hn2
 unfold kL at A1
 simp only at A1
 by_cases o5:xo=5
 ·subst o5
  rw[if_pos rfl] at A1
  simp only at A1
  have hset':List.take (q*4) (v8 (G8 z (A.take k)))++ [D.sc (.int .u8 8),.sc (.bool false),.sc (.int .i64 0),.sc (.int .i64 0)]++List.drop (q*4+4) (v8 (G8 z (A.take k)))=v8 (G8 z (A.take (k+1))):=A1
  simp (disch:=first|omega|assumption|exact f8|exact Or.inl rfl|exact Or.inl trivial|exact j6 _ (fun _=>rfl) _|(simp only[d9]<;>omega)|fail) only[WA,a8,b8,Nat.reduceEqDiff,Nat.reduceLT,Nat.reduceAdd,Nat.reduceBEq,Int.reduceAdd,Int.reduceSub,Int.reduceLT,Int.reduceLE,Int.reduceEq,Int.reduceNeg,↓reduceIte,reduceCtorEq,List.replicate,HT,hag,bK,hset']
  all_goals try (exfalso;omega)
  exact ⟨z - (k+1),_,_,by omega,o7 [(3,3),(2,2),(1,1),(0,0)] 4 h0 rfl rfl rfl rfl,k+1,rfl,by omega,hall2,rfl,rfl⟩
 have o5':((xo:Nat):Int) ≠ 5:=by omega
 rw[if_neg o5] at A1
 by_cases b1:xb=1
 ·subst b1
  have hset':List.take (q*4) (v8 (G8 z (A.take k)))++ [D.sc (.int .u8 1),.sc (.bool true),.sc (.int .i64 0),.sc (.int .i64 0)]++List.drop (q*4+4) (v8 (G8 z (A.take k)))=v8 (G8 z (A.take (k+1))):=A1
  simp (disch:=first|omega|assumption|exact f8|exact Or.inl rfl|exact Or.inl trivial|exact j6 _ (fun _=>rfl) _|(simp only[d9]<;>omega)|fail) only[WA,a8,b8,Nat.reduceEqDiff,Nat.reduceLT,Nat.reduceAdd,Nat.reduceBEq,Int.reduceAdd,Int.reduceSub,Int.reduceLT,Int.reduceLE,Int.reduceEq,Int.reduceNeg,↓reduceIte,reduceCtorEq,List.replicate,HT,hag,bK,hset']
  all_goals try (exfalso;omega)
  exact ⟨z - (k+1),_,_,by omega,o7 [(3,3),(2,2),(1,1),(0,0)] 4 h0 rfl rfl rfl rfl,k+1,rfl,by omega,hall2,rfl,rfl⟩
 ·have b1':((xb:Nat):Int) ≠ 1:=by omega
  rw[decide_eq_false b1] at A1
  have hset':List.take (q*4) (v8 (G8 z (A.take k)))++ [D.sc (.int .u8 1),.sc (.bool false),.sc (.int .i64 0),.sc (.int .i64 0)]++List.drop (q*4+4) (v8 (G8 z (A.take k)))=v8 (G8 z (A.take (k+1))):=A1
  simp (disch:=first|omega|assumption|exact f8|exact Or.inl rfl|exact Or.inl trivial|exact j6 _ (fun _=>rfl) _|(simp only[d9]<;>omega)|fail) only[WA,a8,b8,Nat.reduceEqDiff,Nat.reduceLT,Nat.reduceAdd,Nat.reduceBEq,Int.reduceAdd,Int.reduceSub,Int.reduceLT,Int.reduceLE,Int.reduceEq,Int.reduceNeg,↓reduceIte,reduceCtorEq,List.replicate,HT,hag,bK,hset']
  all_goals try (exfalso;omega)
  exact ⟨z - (k+1),_,_,by omega,o7 [(3,3),(2,2),(1,1),(0,0)] 4 h0 rfl rfl rfl rfl,k+1,rfl,by omega,hall2,rfl,rfl⟩
theorem bH1 {C:C6} (hC:C.E=EN w (n+1)) (h0:C.w0.nx=0) (L:List v4) (hL:L.length≤2000) {K:List KF} {P:A3}
  (hgo:∀ v36,gK C K (.exit 0) [(0,jS 3 L),(2,.ptr 0 0),(4,.ptr 1 0),(5,jS 3 (L.drop (1+bG L))),(36,v36)] ⟨[(1,.box 31 1 [iN (bG L),.sc (.slice none 0 0)]),(0,Y3)],2,0⟩ P):
  gL C [0,2,4,5] VT K [(0,jS 3 L),(2,.ptr 0 0),(4,.ptr 1 0),(5,jS 3 (L.drop 1))] ⟨[(1,.box 31 1 [iN 0,.sc (.slice none 0 0)]),(0,Y3)],2,0⟩ P:=by
 have hrn:C.E.rounds=x8:=by rw[hC,j8]
 refine n9 (fun m fr s=>∃ k:Nat,m=L.length - k∧k≤L.length∧bG L=k+((L.drop (1+k)).takeWhile TC).length∧fr= [(0,jS 3 L),(2,.ptr 0 0),(4,.ptr 1 0),(5,jS 3 (L.drop (1+k)))]∧s=⟨[(1,.box 31 1 [iN k,.sc (.slice none 0 0)]),(0,Y3)],2,0⟩) L.length ?_ ⟨_,_,.refl _ _,0,by omega,Nat.zero_le _,by unfold bG;rw[Nat.zero_add],rfl,rfl⟩ ?_
 ·rw[hrn];unfold x8;omega
 rintro m fr s ⟨k,rfl,hk,hinv,rfl,rfl⟩
 have hdl:(L.drop (1+k)).length=L.length - (1+k):=List.length_drop
 by_cases hlt:1+k<L.length
 case neg=>
  rw[(GK (L:=L) (k:=1+k) (by omega) TC).2,Nat.add_zero] at hinv
  rw[hinv] at hgo
  have hd:(L.drop (1+k)).length=0:=by omega
  generalize L.drop (1+k)=T at*
  obtain rfl:=List.eq_nil_of_length_eq_zero hd
  simp (disch:=first|omega|assumption|exact f8|exact Or.inl rfl|exact Or.inl trivial|exact j6 _ (fun _=>rfl) _|(simp only[d9]<;>omega)|fail) only[WA,a8,b8,Nat.reduceEqDiff,Nat.reduceLT,Nat.reduceAdd,Nat.reduceBEq,Int.reduceAdd,Int.reduceSub,Int.reduceLT,Int.reduceLE,Int.reduceEq,Int.reduceNeg,↓reduceIte,reduceCtorEq,List.replicate,VT]
  exact hgo _
 have hil:=l7 (L.drop (1+k))
 have a0:=Z5 (L.drop (1+k)) 0 0 (by rw[hdl];omega) (by decide)
 have a1:=Z5 (L.drop (1+k)) 0 1 (by rw[hdl];omega) (by decide)
 have hg0:(L.drop (1+k))[0]! =L[1+k]! :=dW L (1+k) 0 (by omega)
 rw[hg0] at a0 a1
 have hpb:=I0 (L.drop (1+k)) 1 (by rw[hdl];omega)
 rw[List.drop_drop,hdl] at hpb
 have hdl1:(L.drop (1+k+1)).length=L.length - (1+k) - 1:=by rw[List.length_drop];omega
 rw[hdl] at hil
 have hs1:=fun h=>(sP hlt TC h).2
 have hs2:=fun h=>(sQ hlt TC h).2
 have hkn:TC L[1+k]! =(decide (L[1+k]!.op=3) && L[1+k]!.right):=rfl
 rw[hkn] at hs1 hs2
 generalize L[1+k]! =x at*
 obtain ⟨xo,xr,xb,xp,xt,xc,xk⟩:=x
 simp only[bA,Nat.zero_mul,Nat.zero_add,List.getElem?_cons_zero,List.getElem?_cons_succ,Option.map_some] at a0 a1
 simp only at hs1 hs2
 by_cases h3:xo=3
 ·subst h3
  cases xr with
  |true=>
   have hs:=hs1 rfl
   unfold jS
   rw[hdl]
   simp (disch:=first|omega|assumption|exact f8|exact Or.inl rfl|exact Or.inl trivial|exact j6 _ (fun _=>rfl) _|(simp only[d9]<;>omega)|fail) only[WA,a8,b8,Nat.reduceEqDiff,Nat.reduceLT,Nat.reduceAdd,Nat.reduceBEq,Int.reduceAdd,Int.reduceSub,Int.reduceLT,Int.reduceLE,Int.reduceEq,Int.reduceNeg,↓reduceIte,reduceCtorEq,List.replicate,VT,tn0,a0,a1,hpb,Nat.zero_mul,Nat.zero_add,Nat.one_mul,jK,tn1]
   all_goals try (exfalso;omega)
   exact ⟨L.length - (k+1),_,_,by omega,.refl _ _,k+1,rfl,by omega,by rw[hinv,hs,show 1+(k+1)=1+k+1 by omega];omega,by rw[show 1+(k+1)=1+k+1 by omega,hdl1],rfl⟩
  |false=>
   have hs:=hs2 rfl
   rw[hs,Nat.add_zero] at hinv
   rw[hinv] at hgo
   unfold jS at hgo ⊢
   rw[hdl] at hgo ⊢
   simp (disch:=first|omega|assumption|exact f8|exact Or.inl rfl|exact Or.inl trivial|exact j6 _ (fun _=>rfl) _|(simp only[d9]<;>omega)|fail) only[WA,a8,b8,Nat.reduceEqDiff,Nat.reduceLT,Nat.reduceAdd,Nat.reduceBEq,Int.reduceAdd,Int.reduceSub,Int.reduceLT,Int.reduceLE,Int.reduceEq,Int.reduceNeg,↓reduceIte,reduceCtorEq,List.replicate,VT,tn0,a0,a1,Nat.zero_mul,Nat.zero_add]
   all_goals try (exfalso;omega)
   exact hgo _
 ·have hs:=hs2 (by rw[decide_eq_false h3];rfl)
  rw[hs,Nat.add_zero] at hinv
  rw[hinv] at hgo
  have h3':((xo:Nat):Int) ≠ 3:=by omega
  unfold jS at hgo ⊢
  rw[hdl] at hgo ⊢
  simp (disch:=first|omega|assumption|exact f8|exact Or.inl rfl|exact Or.inl trivial|exact j6 _ (fun _=>rfl) _|(simp only[d9]<;>omega)|fail) only[WA,a8,b8,Nat.reduceEqDiff,Nat.reduceLT,Nat.reduceAdd,Nat.reduceBEq,Int.reduceAdd,Int.reduceSub,Int.reduceLT,Int.reduceLE,Int.reduceEq,Int.reduceNeg,↓reduceIte,reduceCtorEq,List.replicate,VT,tn0,a0,a1,Nat.zero_mul,Nat.zero_add]
  all_goals try (exfalso;omega)
  exact hgo _
end
theorem BH {z:Nat} {rest:List v4} (h:(rest.dropWhile mD).length<z):nxt z rest=none:=by unfold nxt;rw[if_pos h]
theorem TH {z:Nat} {rest:List v4} (h:¬ ((rest.dropWhile mD).take z).all (FN z)=true):nxt z rest=none:=by
 unfold nxt
 rw[if_neg h]
 split<;>rfl
theorem aF6 {z:Nat} {rest:List v4} (h1:¬ (rest.dropWhile mD).length<z) (h:((rest.dropWhile mD).take z).all (FN z)=true):nxt z rest=some (G8 z ((rest.dropWhile mD).take z),(rest.dropWhile mD).drop z):=by unfold nxt;rw[if_neg h1,if_pos h]
theorem aA4 (rest:List v4):(rest.dropWhile mD).length≤rest.length:=by
 induction rest with
 |nil=>exact Nat.le_refl _
 |cons x r ih=>
  rw[List.dropWhile_cons]
  split
  ·exact Nat.le_trans ih (by simp)
  ·exact Nat.le_refl _
theorem oI {z:Nat} (hz:z≤2000) {R:List (Bool × List q8)} (h:bT R) (A:List v4):bT (R++ [(false,G8 z A)]):=fun r hr=>by
 rcases List.mem_append.1 hr with h1|h1
 ·exact h r h1
 ·rw[List.mem_singleton.1 h1]
  exact ⟨bH6 z A,by rw[T2];omega⟩
theorem zL (c:QS):(mQ c).1.length≤2000:=by
 unfold mQ
 split
 ·simp
 split
 ·split
  ·simp
  ·simp only;omega
 ·simp
theorem MD {H:D6} {o t n:Nat} {z:Bool} {l:List D} {a:Value} (h:i7 H o=some (.gro t 2 z l)) (hl:l.length=n*2):Q6 H [.agg [.sc a,.gr 2 o n]]=some [.agg [.sc a,.sl 2 n l]]:=by
 have h1:=wQ h hl
 generalize V.gr 2 o n=v at*
 simp[B1,Q6,h1]
section
variable (w:World) (n:Nat)
theorem UG {C:C6} (hC:C.E=EN w (n+4)) (h0:C.w0.nx=0) (L:List v4) (hL:L.length≤2000) {K:List KF} {P:A3}
  (hbad:O3 L=none→∀ st,i7 st.own 0=some Y3→st.ro=0→gK C K .ret [(2,.ptr 0 0),(3,iN 12)] st P)
  (hgo:∀ R,O3 L=some R→bT R→R.length≤2000→∀ v5 v50,gK C K (.exit 2) [(0,jS 3 L),(2,.ptr 0 0),(4,.ptr 1 0),(5,v5),(50,v50)] ⟨[(2,Y8 R),(1,.box 31 1 [iN (bG L),.gr 2 2 R.length]),(0,Y3)],3,0⟩ P):
  gL C [0,2,4,5] VQ K [(0,jS 3 L),(2,.ptr 0 0),(4,.ptr 1 0),(5,jS 3 (L.drop (1+bG L)))] ⟨[(1,.box 31 1 [iN (bG L),.sc (.slice none 0 0)]),(0,Y3)],2,0⟩ P:=by
 have hrn:C.E.rounds=x8:=by rw[hC,j8]
 have hz2:bG L≤2000:=by
  unfold bG
  have:=(List.takeWhile_sublist TC (l:=L.drop 1)).length_le
  rw[List.length_drop] at this
  omega
 have hrd:bG L ≠ 0→O3 L=GR (bG L) L.length (L.drop (1+bG L)) []:=fun h=>by unfold O3;rw[if_neg h]
 have hrd0:bG L=0→O3 L=some []:=fun h=>by unfold O3;rw[if_pos h]
 generalize bG L=z at*
 refine nA (oF (C:=C) (st:=⟨[(1,.box 31 1 [iN z,.sc (.slice none 0 0)]),(0,Y3)],2,0⟩) (l:= [iN z,.sc (.slice none 0 0)]) 1 31 1 1 55 2 rfl rfl (fun h=>absurd (show (1:Nat)=2 from h) (by decide))) ?_
 by_cases hz:z=0
 ·subst hz
  have hgo:=hgo [] (hrd0 rfl) (fun r h=>by cases h) (by simp)
  generalize L.drop (1+0)=T at*
  refine n9 (fun m fr s=>m=0∧fr= [(0,jS 3 L),(2,.ptr 0 0),(4,.ptr 1 0),(5,jS 3 T)]∧s=⟨[(2,Y8 []),(1,.box 31 1 [iN 0,.gr 2 2 0]),(0,Y3)],3,0⟩) 0 ?_ ⟨_,_,.refl _ _,rfl,rfl,rfl⟩ ?_
  ·rw[hrn];unfold x8;omega
  rintro m fr s ⟨rfl,rfl,rfl⟩
  by_cases hT:T.length=0
  ·obtain rfl:=List.eq_nil_of_length_eq_zero hT
   simp (disch:=first|omega|assumption|exact f8|exact Or.inl rfl|exact Or.inl trivial|exact j6 _ (fun _=>rfl) _|(simp only[d9]<;>omega)|fail) only[WA,a8,b8,Nat.reduceEqDiff,Nat.reduceLT,Nat.reduceAdd,Nat.reduceBEq,Int.reduceAdd,Int.reduceSub,Int.reduceLT,Int.reduceLE,Int.reduceEq,Int.reduceNeg,↓reduceIte,reduceCtorEq,List.replicate,VQ]
   exact hgo _ _
  ·simp (disch:=first|omega|assumption|exact f8|exact Or.inl rfl|exact Or.inl trivial|exact j6 _ (fun _=>rfl) _|(simp only[d9]<;>omega)|fail) only[WA,a8,b8,Nat.reduceEqDiff,Nat.reduceLT,Nat.reduceAdd,Nat.reduceBEq,Int.reduceAdd,Int.reduceSub,Int.reduceLT,Int.reduceLE,Int.reduceEq,Int.reduceNeg,↓reduceIte,reduceCtorEq,List.replicate,VQ]
   all_goals try (exfalso;omega)
   exact hgo _ _
 have hrd:=hrd hz
 rw[hrd] at hgo hbad
 clear hrd0
 refine n9 (fun m fr s=>∃ (rest:List v4) (acc:List (Bool × List q8)),rest.length≤m∧GR z L.length (L.drop (1+z)) []=GR z m rest acc∧acc.length+m≤2000∧bT acc∧fr= [(0,jS 3 L),(2,.ptr 0 0),(4,.ptr 1 0),(5,jS 3 rest)]∧s=⟨[(2,Y8 acc),(1,.box 31 1 [iN z,.gr 2 2 acc.length]),(0,Y3)],3,0⟩) L.length ?_ ⟨_,_,.refl _ _,L.drop (1+z),[],by rw[List.length_drop];omega,rfl,by simp;omega,(fun r h=>by cases h),rfl,rfl⟩ ?_
 ·rw[hrn];unfold x8;omega
 rintro m fr s ⟨rest,acc,hm,hinv,hal,hK,rfl,rfl⟩
 by_cases hT:rest= []
 ·subst hT
  rw[FP] at hinv
  have hgo:=hgo acc hinv hK (by omega)
  simp (disch:=first|omega|assumption|exact f8|exact Or.inl rfl|exact Or.inl trivial|exact j6 _ (fun _=>rfl) _|(simp only[d9]<;>omega)|fail) only[WA,a8,b8,Nat.reduceEqDiff,Nat.reduceLT,Nat.reduceAdd,Nat.reduceBEq,Int.reduceAdd,Int.reduceSub,Int.reduceLT,Int.reduceLE,Int.reduceEq,Int.reduceNeg,↓reduceIte,reduceCtorEq,List.replicate,VQ]
  exact hgo _ _
 have hT0:rest.length ≠ 0:=fun h=>hT (List.eq_nil_of_length_eq_zero h)
 have hcl:=aD6 w (n+3) 3 rest (by omega) (by omega)
 have hmk:=fun nx t=>kS nx t z (by omega)
 have hil:=l7 rest
 simp (disch:=first|omega|assumption|exact f8|exact Or.inl rfl|exact Or.inl trivial|exact j6 _ (fun _=>rfl) _|(simp only[d9]<;>omega)|fail) only[WA,a8,b8,Nat.reduceEqDiff,Nat.reduceLT,Nat.reduceAdd,Nat.reduceBEq,Int.reduceAdd,Int.reduceSub,Int.reduceLT,Int.reduceLE,Int.reduceEq,Int.reduceNeg,↓reduceIte,reduceCtorEq,List.replicate,VQ,hmk]
 all_goals try (exfalso;omega)
 refine M3 (by rw[hC];exact hcl) rfl rfl (fun _=>rfl) ?_
 repeat' (first|(simp (disch:=first|omega|assumption|exact f8|exact Or.inl rfl|exact Or.inl trivial|exact j6 _ (fun _=>rfl) _|(simp only[d9]<;>omega)|fail) only[WA,a8,b8,Nat.reduceEqDiff,Nat.reduceLT,Nat.reduceAdd,Nat.reduceBEq,Int.reduceAdd,Int.reduceSub,Int.reduceLT,Int.reduceLE,Int.reduceEq,Int.reduceNeg,↓reduceIte,reduceCtorEq,List.replicate])|apply C3|((first|apply N9|apply D4|apply I8|apply O0|apply N8|apply I9)<;>intro _))
 refine aT8 w (n+3) hC h0 L z _ rest (by omega) fun v65=>?_
 have hdw:=aA4 rest
 have hrl:=l7 (rest.dropWhile mD)
 by_cases hs:(rest.dropWhile mD).length<z
 ·have hbad:=hbad (by rw[hinv];exact vW hT hm (BH hs))
  generalize rest.dropWhile mD=T at*
  simp (disch:=first|omega|assumption|exact f8|exact Or.inl rfl|exact Or.inl trivial|exact j6 _ (fun _=>rfl) _|(simp only[d9]<;>omega)|fail) only[WA,a8,b8,Nat.reduceEqDiff,Nat.reduceLT,Nat.reduceAdd,Nat.reduceBEq,Int.reduceAdd,Int.reduceSub,Int.reduceLT,Int.reduceLE,Int.reduceEq,Int.reduceNeg,↓reduceIte,reduceCtorEq,List.replicate]
  all_goals try (exfalso;omega)
  exact hbad _ rfl rfl
 have hnb:=@TH z rest
 have hno:=@aF6 z rest hs
 generalize rest.dropWhile mD=T at*
 have hpf:=rJ T z (by omega)
 have hpb:=I0 T z (by omega)
 have hAl:(T.take z).length=z:=by rw[List.length_take];omega
 have hBl:(T.drop z).length=T.length - z:=List.length_drop
 have hal7:=l7 (T.take z)
 rw[hAl] at hal7
 have hrow:=@bH2 w (n+3) C hC h0 L z hz2 T (T.take z) hAl acc
 unfold jS at hrow
 rw[hAl] at hrow
 simp (disch:=first|omega|assumption|exact f8|exact Or.inl rfl|exact Or.inl trivial|exact j6 _ (fun _=>rfl) _|(simp only[d9]<;>omega)|fail) only[WA,a8,b8,Nat.reduceEqDiff,Nat.reduceLT,Nat.reduceAdd,Nat.reduceBEq,Int.reduceAdd,Int.reduceSub,Int.reduceLT,Int.reduceLE,Int.reduceEq,Int.reduceNeg,↓reduceIte,reduceCtorEq,List.replicate,hpf]
 all_goals try (exfalso;omega)
 refine hrow (fun hb st e1 e2=>hbad (by rw[hinv];exact vW hT hm (hnb hb)) st e1 e2) (fun ho v80=>?_)
 obtain ⟨g,rfl,hg⟩:=LH (acc:=acc) hT hm (hno ho)
 rw[hg] at hinv
 simp only at hinv
 have hsl:=v3 (G8 z (T.take z))
 rw[T2] at hsl
 have hsb:cH [(4,.box 55 2 [.sc (.bool false),.ref 3 0 z z]),(3,MO (G8 z (T.take z))),(2,Y8 acc),(1,.box 31 1 [iN z,.gr 2 2 acc.length]),(0,Y3)] 2 0 1 (some (.box 55 2 [.sc (.bool false),.ref 3 0 z z]))=some (1,[.sc (.bool false),.sl 0 z (v8 (G8 z (T.take z)))],[3]):=MF rfl hsl
 have hsn:=wF 0 acc false (G8 z (T.take z))
 rw[T2] at hsn
 have hrL:=E6 0 acc
 have hok:=LU acc
 have hKs:=oI hz2 hK (T.take z)
 simp (disch:=first|omega|assumption|exact f8|exact Or.inl rfl|exact Or.inl trivial|exact j6 _ (fun _=>rfl) _|(simp only[d9]<;>omega)|fail) only[WA,a8,b8,Nat.reduceEqDiff,Nat.reduceLT,Nat.reduceAdd,Nat.reduceBEq,Int.reduceAdd,Int.reduceSub,Int.reduceLT,Int.reduceLE,Int.reduceEq,Int.reduceNeg,↓reduceIte,reduceCtorEq,List.replicate,hpb,LR,hsb]
 all_goals try (exfalso;omega)
 exact ⟨g,_,_,by omega,o7 [(5,2),(1,1),(0,0)] 3 h0 rfl rfl rfl rfl,T.drop z,acc++ [(false,G8 z (T.take z))],by rw[hBl];omega,hinv,by rw[List.length_append];simp only[List.length_cons,List.length_nil];omega,hKs,(by show _= [(0,V.sl 3 L.length (p8 L)),(2,.ptr 0 0),(4,.ptr 1 0),(5,.sl 3 (T.drop z).length (p8 (T.drop z)))];rw[hBl];rfl),by rw[List.length_append];simp only[Y8];rw[hsn];rfl⟩
theorem bH3 (L:List v4) (hLL:L.length≤140737488351232):n5 (EN w (n+12)) 7 [jS 3 L] (bB8 (nV L)) ⟨[],0,0⟩:=by
 have hil:=l7 L
 unfold nV
 refine N2 rfl rfl (fun _ _=>rfl) (Nat.le_of_ble_eq_true rfl) (k9 w) rM rfl fun C hC h0=>?_
 by_cases h2:2000<L.length
 ·rw[if_pos h2]
  simp (disch:=first|omega|assumption|exact f8|exact Or.inl rfl|exact Or.inl trivial|exact j6 _ (fun _=>rfl) _|(simp only[d9]<;>omega)|fail) only[WA,a8,b8,Nat.reduceEqDiff,Nat.reduceLT,Nat.reduceAdd,Nat.reduceBEq,Int.reduceAdd,Int.reduceSub,Int.reduceLT,Int.reduceLE,Int.reduceEq,Int.reduceNeg,↓reduceIte,reduceCtorEq,List.replicate,c7]
  all_goals try (exfalso;omega)
  exact H1 h0 rfl
 rw[if_neg h2]
 have hz2:bG L≤2000:=by
  unfold bG
  have:=(List.takeWhile_sublist TC (l:=L.drop 1)).length_le
  rw[List.length_drop] at this
  omega
 have hmin:∃ a:Nat,min 1 (L.length:Int)=a∧a≤L.length∧L.drop a=L.drop 1∧(L.drop a).length=L.length - a:=by
  by_cases hl:L= []
  ·subst hl;exact ⟨0,rfl,Nat.zero_le _,rfl,rfl⟩
  ·have:=List.length_pos_iff.2 hl
   exact ⟨1,by omega,this,rfl,List.length_drop⟩
 obtain ⟨a,hm,ha,hd,hdl⟩:=hmin
 have hpb:=I0 L a ha
 rw[hd] at hpb
 have hcnt:=@bH1 w (n+10) C hC h0 L (by omega)
 unfold jS at hcnt
 rw[← hd,hdl,hd] at hcnt
 simp (disch:=first|omega|assumption|exact f8|exact Or.inl rfl|exact Or.inl trivial|exact j6 _ (fun _=>rfl) _|(simp only[d9]<;>omega)|fail) only[WA,a8,b8,Nat.reduceEqDiff,Nat.reduceLT,Nat.reduceAdd,Nat.reduceBEq,Int.reduceAdd,Int.reduceSub,Int.reduceLT,Int.reduceLE,Int.reduceEq,Int.reduceNeg,↓reduceIte,reduceCtorEq,List.replicate,c7,FH,hm,hpb,jK]
 all_goals try (exfalso;omega)
 refine hcnt fun v36=>?_
 simp (disch:=first|omega|assumption|exact f8|exact Or.inl rfl|exact Or.inl trivial|exact j6 _ (fun _=>rfl) _|(simp only[d9]<;>omega)|fail) only[WA,a8,b8,Nat.reduceEqDiff,Nat.reduceLT,Nat.reduceAdd,Nat.reduceBEq,Int.reduceAdd,Int.reduceSub,Int.reduceLT,Int.reduceLE,Int.reduceEq,Int.reduceNeg,↓reduceIte,reduceCtorEq,List.replicate]
 refine nA (mA [0,2,4,5] rfl) ?_
 refine UG w (n+7) hC h0 L (by omega) (fun hr st e1 e2=>?_) (fun R hr hKR hRl v5 v50=>?_)
 ·rw[hr]
  simp (disch:=first|omega|assumption|exact f8|exact Or.inl rfl|exact Or.inl trivial|exact j6 _ (fun _=>rfl) _|(simp only[d9]<;>omega)|fail) only[WA,a8,b8,Nat.reduceEqDiff,Nat.reduceLT,Nat.reduceAdd,Nat.reduceBEq,Int.reduceAdd,Int.reduceSub,Int.reduceLT,Int.reduceLE,Int.reduceEq,Int.reduceNeg,↓reduceIte,reduceCtorEq,List.replicate,e1]
  exact H1 h0 e2
 rw[hr]
 simp only
 have h0R:(bG L:Int)=0→R= []:=fun h=>by
  unfold O3 at hr
  rw[if_pos (by omega)] at hr
  exact (Option.some.inj hr).symm
 have hcm:=VX w n 2 0 (by decide) (by decide) (bG L) R (by omega) hKR h0R
 have hcl:=zL ((bG L:Int),R)
 have hrL:=E6 0 R
 generalize mQ ((bG L:Int),R)=pe at*
 obtain ⟨p,e⟩:=pe
 simp only at hcl
 have hje:=nJ w (n+10) 3 3 p L (by omega) hLL
 simp (disch:=first|omega|assumption|exact f8|exact Or.inl rfl|exact Or.inl trivial|exact j6 _ (fun _=>rfl) _|(simp only[d9]<;>omega)|fail) only[WA,a8,b8,Nat.reduceEqDiff,Nat.reduceLT,Nat.reduceAdd,Nat.reduceBEq,Int.reduceAdd,Int.reduceSub,Int.reduceLT,Int.reduceLE,Int.reduceEq,Int.reduceNeg,↓reduceIte,reduceCtorEq,List.replicate]
 refine aQ (by rw[hC];exact hcm) (MD rfl hrL) rfl rfl ?_
 simp only[Prod.mk.injEq]
 by_cases he:e=0
 ·subst he
  simp (disch:=first|omega|assumption|exact f8|exact Or.inl rfl|exact Or.inl trivial|exact j6 _ (fun _=>rfl) _|(simp only[d9]<;>omega)|fail) only[WA,a8,b8,Nat.reduceEqDiff,Nat.reduceLT,Nat.reduceAdd,Nat.reduceBEq,Int.reduceAdd,Int.reduceSub,Int.reduceLT,Int.reduceLE,Int.reduceEq,Int.reduceNeg,↓reduceIte,reduceCtorEq,List.replicate,oH,rP,PZ,oE,R5,bS]
  refine a9 (by rw[hC];exact hje.flat rfl rfl) ?_
  by_cases hp:p=L
  ·rw[if_pos ⟨hp,trivial⟩,decide_eq_true hp]
   simp (disch:=first|omega|assumption|exact f8|exact Or.inl rfl|exact Or.inl trivial|exact j6 _ (fun _=>rfl) _|(simp only[d9]<;>omega)|fail) only[WA,a8,b8,Nat.reduceEqDiff,Nat.reduceLT,Nat.reduceAdd,Nat.reduceBEq,Int.reduceAdd,Int.reduceSub,Int.reduceLT,Int.reduceLE,Int.reduceEq,Int.reduceNeg,↓reduceIte,reduceCtorEq,List.replicate]
   exact xW (wQ rfl hrL) rfl (.inl (by decide)) h0 rfl
  ·rw[if_neg (fun h=>hp h.1),decide_eq_false hp]
   simp (disch:=first|omega|assumption|exact f8|exact Or.inl rfl|exact Or.inl trivial|exact j6 _ (fun _=>rfl) _|(simp only[d9]<;>omega)|fail) only[WA,a8,b8,Nat.reduceEqDiff,Nat.reduceLT,Nat.reduceAdd,Nat.reduceBEq,Int.reduceAdd,Int.reduceSub,Int.reduceLT,Int.reduceLE,Int.reduceEq,Int.reduceNeg,↓reduceIte,reduceCtorEq,List.replicate]
   exact H1 h0 rfl
 ·rw[if_neg (fun h=>he h.2)]
  simp (disch:=first|omega|assumption|exact f8|exact Or.inl rfl|exact Or.inl trivial|exact j6 _ (fun _=>rfl) _|(simp only[d9]<;>omega)|fail) only[WA,a8,b8,Nat.reduceEqDiff,Nat.reduceLT,Nat.reduceAdd,Nat.reduceBEq,Int.reduceAdd,Int.reduceSub,Int.reduceLT,Int.reduceLE,Int.reduceEq,Int.reduceNeg,↓reduceIte,reduceCtorEq,List.replicate,oH,rP,PZ,oE,R5,bS]
  all_goals try (exfalso;omega)
  all_goals exact H1 h0 rfl
end
section
variable (w:World) (n:Nat)
theorem aU3 {C:C6} (hC:C.E=EN w (n+1)) (h0:C.w0.nx=0) (L:List v4) (hL:L.length≤2000) (st:n4) {K:List KF} {P:A3}
  (hgo:∀ v37,gK C K (.exit 0) [(0,jS 3 L),(2,.ptr 0 0),(4,iN (bG L)),(37,v37)] st P):
  gL C [0,2,4] VV K [(0,jS 3 L),(2,.ptr 0 0),(4,iN 0)] st P:=by
 have hrn:C.E.rounds=x8:=by rw[hC,j8]
 have hil:=l7 L
 refine n9 (fun m fr s=>∃ k:Nat,m=L.length - k∧k≤L.length∧bG L=k+((L.drop (1+k)).takeWhile TC).length∧fr= [(0,jS 3 L),(2,.ptr 0 0),(4,iN k)]∧s=st) L.length ?_ ⟨_,_,.refl _ _,0,by omega,Nat.zero_le _,by unfold bG;rw[Nat.zero_add],rfl,rfl⟩ ?_
 ·rw[hrn];unfold x8;omega
 rintro m fr s ⟨k,rfl,hk,hinv,rfl,rfl⟩
 have h1k:(1+(k:Int))=((1+k:Nat):Int):=by omega
 by_cases hlt:1+k<L.length
 case neg=>
  rw[(GK (L:=L) (k:=1+k) (by omega) TC).2,Nat.add_zero] at hinv
  rw[hinv] at hgo
  simp (disch:=first|omega|assumption|exact f8|exact Or.inl rfl|exact Or.inl trivial|exact j6 _ (fun _=>rfl) _|(simp only[d9]<;>omega)|fail) only[WA,a8,b8,Nat.reduceEqDiff,Nat.reduceLT,Nat.reduceAdd,Nat.reduceBEq,Int.reduceAdd,Int.reduceSub,Int.reduceLT,Int.reduceLE,Int.reduceEq,Int.reduceNeg,↓reduceIte,reduceCtorEq,List.replicate,VV,h1k]
  all_goals try (exfalso;omega)
  exact hgo _
 have a0:=Z5 L (1+k) 0 hlt (by decide)
 have a1:=Z5 L (1+k) 1 hlt (by decide)
 have hs1:=fun h=>(sP hlt TC h).2
 have hs2:=fun h=>(sQ hlt TC h).2
 have hkn:TC L[1+k]! =(decide (L[1+k]!.op=3) && L[1+k]!.right):=rfl
 rw[hkn] at hs1 hs2
 generalize L[1+k]! =x at*
 obtain ⟨xo,xr,xb,xp,xt,xc,xk⟩:=x
 simp only[bA,Nat.add_zero,List.getElem?_cons_zero,List.getElem?_cons_succ,Option.map_some] at a0 a1
 simp only at hs1 hs2
 by_cases h3:xo=3
 ·subst h3
  cases xr with
  |true=>
   have hs:=hs1 rfl
   simp (disch:=first|omega|assumption|exact f8|exact Or.inl rfl|exact Or.inl trivial|exact j6 _ (fun _=>rfl) _|(simp only[d9]<;>omega)|fail) only[WA,a8,b8,Nat.reduceEqDiff,Nat.reduceLT,Nat.reduceAdd,Nat.reduceBEq,Int.reduceAdd,Int.reduceSub,Int.reduceLT,Int.reduceLE,Int.reduceEq,Int.reduceNeg,↓reduceIte,reduceCtorEq,List.replicate,VV,h1k,a0,a1]
   all_goals try (exfalso;omega)
   exact ⟨L.length - (k+1),_,_,by omega,.refl _ _,k+1,rfl,by omega,by rw[hinv,hs,show 1+(k+1)=1+k+1 by omega];omega,rfl,rfl⟩
  |false=>
   have hs:=hs2 rfl
   rw[hs,Nat.add_zero] at hinv
   rw[hinv] at hgo
   simp (disch:=first|omega|assumption|exact f8|exact Or.inl rfl|exact Or.inl trivial|exact j6 _ (fun _=>rfl) _|(simp only[d9]<;>omega)|fail) only[WA,a8,b8,Nat.reduceEqDiff,Nat.reduceLT,Nat.reduceAdd,Nat.reduceBEq,Int.reduceAdd,Int.reduceSub,Int.reduceLT,Int.reduceLE,Int.reduceEq,Int.reduceNeg,↓reduceIte,reduceCtorEq,List.replicate,VV,h1k,a0,a1]
   all_goals try (exfalso;omega)
   exact hgo _
 ·have hs:=hs2 (by rw[decide_eq_false h3];rfl)
  rw[hs,Nat.add_zero] at hinv
  rw[hinv] at hgo
  have h3':((xo:Nat):Int) ≠ 3:=by omega
  simp (disch:=first|omega|assumption|exact f8|exact Or.inl rfl|exact Or.inl trivial|exact j6 _ (fun _=>rfl) _|(simp only[d9]<;>omega)|fail) only[WA,a8,b8,Nat.reduceEqDiff,Nat.reduceLT,Nat.reduceAdd,Nat.reduceBEq,Int.reduceAdd,Int.reduceSub,Int.reduceLT,Int.reduceLE,Int.reduceEq,Int.reduceNeg,↓reduceIte,reduceCtorEq,List.replicate,VV,h1k,a0,a1]
  all_goals try (exfalso;omega)
  exact hgo _
theorem aJ9 {C:C6} (hC:C.E=EN w (n+1)) (h0:C.w0.nx=0) (L:List v4) (hL:L.length≤2000) (z at_:Nat) (hat:at_≤L.length) (st:n4) {K:List KF} {P:A3}
  (hgo:∀ (q:Nat) (v63:V),L.drop q=(L.drop at_).dropWhile mD→q≤L.length→gK C K (.exit 4) [(0,jS 3 L),(2,.ptr 0 0),(4,iN z),(5,.ptr 1 0),(6,iN q),(63,v63)] st P):
  gL C [0,2,4,5,6] ZI K [(0,jS 3 L),(2,.ptr 0 0),(4,iN z),(5,.ptr 1 0),(6,iN at_)] st P:=by
 have hrn:C.E.rounds=x8:=by rw[hC,j8]
 have hil:=l7 L
 refine n9 (fun m fr s=>∃ q:Nat,m=L.length - q∧q≤L.length∧(L.drop q).dropWhile mD=(L.drop at_).dropWhile mD∧fr= [(0,jS 3 L),(2,.ptr 0 0),(4,iN z),(5,.ptr 1 0),(6,iN q)]∧s=st) (L.length - at_) ?_ ⟨_,_,.refl _ _,at_,rfl,hat,rfl,rfl,rfl⟩ ?_
 ·rw[hrn];unfold x8;omega
 rintro m fr s ⟨q,rfl,hq,hinv,rfl,rfl⟩
 by_cases hlt:q<L.length
 case neg=>
  have e:=(GK (L:=L) (k:=q) (by omega) mD).1
  have hgo:=fun v63=>hgo q v63 (by rw[← hinv];exact e.symm) hq
  simp (disch:=first|omega|assumption|exact f8|exact Or.inl rfl|exact Or.inl trivial|exact j6 _ (fun _=>rfl) _|(simp only[d9]<;>omega)|fail) only[WA,a8,b8,Nat.reduceEqDiff,Nat.reduceLT,Nat.reduceAdd,Nat.reduceBEq,Int.reduceAdd,Int.reduceSub,Int.reduceLT,Int.reduceLE,Int.reduceEq,Int.reduceNeg,↓reduceIte,reduceCtorEq,List.replicate,ZI]
  all_goals try (exfalso;omega)
  exact hgo _
 have a0:=Z5 L q 0 hlt (by decide)
 by_cases h7:L[q]!.op=7
 ·have hs:=(sP hlt mD (decide_eq_true h7)).1
  generalize L[q]! =x at*
  obtain ⟨xo,xr,xb,xp,xt,xc,xk⟩:=x
  simp only[bA,Nat.add_zero,List.getElem?_cons_zero,Option.map_some] at a0
  simp only at h7
  subst h7
  simp (disch:=first|omega|assumption|exact f8|exact Or.inl rfl|exact Or.inl trivial|exact j6 _ (fun _=>rfl) _|(simp only[d9]<;>omega)|fail) only[WA,a8,b8,Nat.reduceEqDiff,Nat.reduceLT,Nat.reduceAdd,Nat.reduceBEq,Int.reduceAdd,Int.reduceSub,Int.reduceLT,Int.reduceLE,Int.reduceEq,Int.reduceNeg,↓reduceIte,reduceCtorEq,List.replicate,ZI,a0]
  all_goals try (exfalso;omega)
  exact ⟨L.length - (q+1),_,_,by omega,.refl _ _,q+1,rfl,by omega,by rw[← hs];exact hinv,rfl,rfl⟩
 ·have hs:=(sQ hlt mD (decide_eq_false h7)).1
  have hgo:=fun v63=>hgo q v63 (by rw[← hinv];exact hs.symm) hq
  generalize L[q]! =x at*
  obtain ⟨xo,xr,xb,xp,xt,xc,xk⟩:=x
  simp only[bA,Nat.add_zero,List.getElem?_cons_zero,Option.map_some] at a0
  simp only at h7
  have h7':((xo:Nat):Int) ≠ 7:=by omega
  simp (disch:=first|omega|assumption|exact f8|exact Or.inl rfl|exact Or.inl trivial|exact j6 _ (fun _=>rfl) _|(simp only[d9]<;>omega)|fail) only[WA,a8,b8,Nat.reduceEqDiff,Nat.reduceLT,Nat.reduceAdd,Nat.reduceBEq,Int.reduceAdd,Int.reduceSub,Int.reduceLT,Int.reduceLE,Int.reduceEq,Int.reduceNeg,↓reduceIte,reduceCtorEq,List.replicate,ZI,a0]
  all_goals try (exfalso;omega)
  exact hgo _
theorem aU4 {C:C6} (hC:C.E=EN w (n+1)) (h0:C.w0.nx=0) (L:List v4) (hL:L.length≤2000) (z at_:Nat) (hz:z≤2000) (hat:at_≤L.length) (rows:List (Bool × List q8)) {K:List KF} {P:A3}
  (hbad:((L.drop at_).length<z∨¬ ((L.drop at_).take z).all (FN z)=true)→∀ st,i7 st.own 0=some Y3→st.ro=0→gK C K .ret [(2,.ptr 0 0),(3,iN 12)] st P)
  (hgo:¬ (L.drop at_).length<z→((L.drop at_).take z).all (FN z)=true→∀ v70,gK C K (.exit 6) [(0,jS 3 L),(2,.ptr 0 0),(4,iN z),(5,.ptr 1 0),(6,iN ((at_+z:Nat):Int)),(7,.ref 3 0 z z),(8,iN z),(70,v70)] ⟨[(3,MO (G8 z ((L.drop at_).take z))),(2,Y8 rows),(1,.box 31 1 [iN z,.gr 2 2 rows.length]),(0,Y3)],4,0⟩ P):
  gL C [0,2,4,5,6,7,8] yG K [(0,jS 3 L),(2,.ptr 0 0),(4,iN z),(5,.ptr 1 0),(6,iN at_),(7,.ref 3 0 z z),(8,iN 0)] ⟨[(3,MO (G8 z [])),(2,Y8 rows),(1,.box 31 1 [iN z,.gr 2 2 rows.length]),(0,Y3)],4,0⟩ P:=by
 have hrn:C.E.rounds=x8:=by rw[hC,j8]
 have hil:=l7 L
 have hdl:(L.drop at_).length=L.length - at_:=List.length_drop
 refine n9 (fun m fr s=>∃ k:Nat,m=z - k∧k≤z∧at_+k≤L.length∧((L.drop at_).take k).all (FN z)=true∧fr= [(0,jS 3 L),(2,.ptr 0 0),(4,iN z),(5,.ptr 1 0),(6,iN ((at_+k:Nat):Int)),(7,.ref 3 0 z z),(8,iN k)]∧s=⟨[(3,MO (G8 z ((L.drop at_).take k))),(2,Y8 rows),(1,.box 31 1 [iN z,.gr 2 2 rows.length]),(0,Y3)],4,0⟩) z ?_ ⟨_,_,.refl _ _,0,by omega,Nat.zero_le _,by omega,rfl,rfl,rfl⟩ ?_
 ·rw[hrn];unfold x8;omega
 rintro m fr s ⟨k,rfl,hk,hak,hall,rfl,rfl⟩
 by_cases hkz:k<z
 case neg=>
  have:k=z:=by omega
  subst this
  have hgo:=hgo (by omega) hall
  simp (disch:=first|omega|assumption|exact f8|exact Or.inl rfl|exact Or.inl trivial|exact j6 _ (fun _=>rfl) _|(simp only[d9]<;>omega)|fail) only[WA,a8,b8,Nat.reduceEqDiff,Nat.reduceLT,Nat.reduceAdd,Nat.reduceBEq,Int.reduceAdd,Int.reduceSub,Int.reduceLT,Int.reduceLE,Int.reduceEq,Int.reduceNeg,↓reduceIte,reduceCtorEq,List.replicate,yG]
  exact hgo _
 by_cases hend:at_+k=L.length
 ·have hbad:=hbad (.inl (by omega))
  rw[hend]
  simp (disch:=first|omega|assumption|exact f8|exact Or.inl rfl|exact Or.inl trivial|exact j6 _ (fun _=>rfl) _|(simp only[d9]<;>omega)|fail) only[WA,a8,b8,Nat.reduceEqDiff,Nat.reduceLT,Nat.reduceAdd,Nat.reduceBEq,Int.reduceAdd,Int.reduceSub,Int.reduceLT,Int.reduceLE,Int.reduceEq,Int.reduceNeg,↓reduceIte,reduceCtorEq,List.replicate,yG]
  all_goals try (exfalso;omega)
  exact hbad _ rfl rfl
 have hlt:at_+k<L.length:=by omega
 have hltk:k<(L.drop at_).length:=by omega
 have hag:(L.drop at_)[k]! =L[at_+k]! :=dW L at_ k hlt
 have a0:=Z5 L (at_+k) 0 hlt (by decide)
 have a2:=Z5 L (at_+k) 2 hlt (by decide)
 have a3:=Z5 L (at_+k) 3 hlt (by decide)
 have hts:=qD hltk
 have hrs:=BW z ((L.drop at_).take k) (L.drop at_)[k]!
 rw[← hts] at hrs
 have A1:=MN (G8 z ((L.drop at_).take k)) (L.drop at_)[k]!.pos.toNat (kL (L.drop at_)[k]!)
 rw[T2] at A1
 have hrl:=v3 (G8 z ((L.drop at_).take k))
 rw[T2] at hrl
 rw[← hrs] at A1
 have hb2:FN z (L.drop at_)[k]! =false→¬ ((L.drop at_).take z).all (FN z)=true:=fun h hc=>by
  have hk2:k<((L.drop at_).take z).length:=by rw[List.length_take];omega
  have h1:=QX hc hk2
  rw[getElem!_pos _ k hk2,List.getElem_take,← getElem!_pos (L.drop at_) k hltk] at h1
  rw[h] at h1;cases h1
 have hn2:FN z (L.drop at_)[k]! =true→((L.drop at_).take (k+1)).all (FN z)=true:=fun h=>kE hltk hall h
 rw[hag] at A1 hb2 hn2
 unfold FN at hb2 hn2
 generalize L[at_+k]! =x at*
 obtain ⟨xo,xr,xb,xp,xt,xc,xk⟩:=x
 simp only[bA,Nat.add_zero,List.getElem?_cons_zero,List.getElem?_cons_succ,Option.map_some] at a0 a2 a3
 simp only at A1 hb2 hn2
 by_cases p1:xp<0
 ·have hbad:=hbad (.inr (hb2 (by rw[decide_eq_false (by omega)];rfl)))
  generalize at_+k=q at*
  simp (disch:=first|omega|assumption|exact f8|exact Or.inl rfl|exact Or.inl trivial|exact j6 _ (fun _=>rfl) _|(simp only[d9]<;>omega)|fail) only[WA,a8,b8,Nat.reduceEqDiff,Nat.reduceLT,Nat.reduceAdd,Nat.reduceBEq,Int.reduceAdd,Int.reduceSub,Int.reduceLT,Int.reduceLE,Int.reduceEq,Int.reduceNeg,↓reduceIte,reduceCtorEq,List.replicate,yG,a0,a2,a3]
  all_goals try (exfalso;omega)
  exact hbad _ rfl rfl
 by_cases p2:xp<z
 case neg=>
  have hbad:=hbad (.inr (hb2 (by rw[decide_eq_false p2];simp)))
  generalize at_+k=q at*
  simp (disch:=first|omega|assumption|exact f8|exact Or.inl rfl|exact Or.inl trivial|exact j6 _ (fun _=>rfl) _|(simp only[d9]<;>omega)|fail) only[WA,a8,b8,Nat.reduceEqDiff,Nat.reduceLT,Nat.reduceAdd,Nat.reduceBEq,Int.reduceAdd,Int.reduceSub,Int.reduceLT,Int.reduceLE,Int.reduceEq,Int.reduceNeg,↓reduceIte,reduceCtorEq,List.replicate,yG,a0,a2,a3]
  all_goals try (exfalso;omega)
  exact hbad _ rfl rfl
 have hall2:=hn2 (by rw[decide_eq_true p2,decide_eq_true (by omega)];rfl)
 obtain ⟨y,rfl⟩:∃ y:Nat,xp=y:=⟨xp.toNat,by omega⟩
 have A1:=A1 (by omega)
 simp only[Int.toNat_natCast] at A1
 clear hgo hbad hb2 hn2
 unfold kL at A1
 simp only at A1
 have hnx:(((at_+(k+1):Nat)):Int)=((at_+k:Nat):Int)+1:=by omega
 by_cases o5:xo=5
 ·subst o5
  rw[if_pos rfl] at A1
  simp only at A1
  have hset':List.take (y*4) (v8 (G8 z ((L.drop at_).take k)))++ [D.sc (.int .u8 8),.sc (.bool false),.sc (.int .i64 0),.sc (.int .i64 0)]++List.drop (y*4+4) (v8 (G8 z ((L.drop at_).take k)))=v8 (G8 z ((L.drop at_).take (k+1))):=A1
  by_cases b1:xb=1
  ·subst b1
   simp (disch:=first|omega|assumption|exact f8|exact Or.inl rfl|exact Or.inl trivial|exact j6 _ (fun _=>rfl) _|(simp only[d9]<;>omega)|fail) only[WA,a8,b8,Nat.reduceEqDiff,Nat.reduceLT,Nat.reduceAdd,Nat.reduceBEq,Int.reduceAdd,Int.reduceSub,Int.reduceLT,Int.reduceLE,Int.reduceEq,Int.reduceNeg,↓reduceIte,reduceCtorEq,List.replicate,yG,a0,a2,a3,bK,hset']
   all_goals try (exfalso;omega)
   exact ⟨z - (k+1),_,_,by omega,o7 [(3,3),(2,2),(1,1),(0,0)] 4 h0 rfl rfl rfl rfl,k+1,rfl,by omega,by omega,hall2,by rw[hnx];rfl,rfl⟩
  ·have b1':((xb:Nat):Int) ≠ 1:=by omega
   simp (disch:=first|omega|assumption|exact f8|exact Or.inl rfl|exact Or.inl trivial|exact j6 _ (fun _=>rfl) _|(simp only[d9]<;>omega)|fail) only[WA,a8,b8,Nat.reduceEqDiff,Nat.reduceLT,Nat.reduceAdd,Nat.reduceBEq,Int.reduceAdd,Int.reduceSub,Int.reduceLT,Int.reduceLE,Int.reduceEq,Int.reduceNeg,↓reduceIte,reduceCtorEq,List.replicate,yG,a0,a2,a3,bK,hset']
   all_goals try (exfalso;omega)
   exact ⟨z - (k+1),_,_,by omega,o7 [(3,3),(2,2),(1,1),(0,0)] 4 h0 rfl rfl rfl rfl,k+1,rfl,by omega,by omega,hall2,by rw[hnx];rfl,rfl⟩
 have o5':((xo:Nat):Int) ≠ 5:=by omega
 rw[if_neg o5] at A1
 by_cases b1:xb=1
 ·subst b1
  have hset':List.take (y*4) (v8 (G8 z ((L.drop at_).take k)))++ [D.sc (.int .u8 1),.sc (.bool true),.sc (.int .i64 0),.sc (.int .i64 0)]++List.drop (y*4+4) (v8 (G8 z ((L.drop at_).take k)))=v8 (G8 z ((L.drop at_).take (k+1))):=A1
  simp (disch:=first|omega|assumption|exact f8|exact Or.inl rfl|exact Or.inl trivial|exact j6 _ (fun _=>rfl) _|(simp only[d9]<;>omega)|fail) only[WA,a8,b8,Nat.reduceEqDiff,Nat.reduceLT,Nat.reduceAdd,Nat.reduceBEq,Int.reduceAdd,Int.reduceSub,Int.reduceLT,Int.reduceLE,Int.reduceEq,Int.reduceNeg,↓reduceIte,reduceCtorEq,List.replicate,yG,a0,a2,a3,bK,hset']
  all_goals try (exfalso;omega)
  exact ⟨z - (k+1),_,_,by omega,o7 [(3,3),(2,2),(1,1),(0,0)] 4 h0 rfl rfl rfl rfl,k+1,rfl,by omega,by omega,hall2,by rw[hnx];rfl,rfl⟩
 ·have b1':((xb:Nat):Int) ≠ 1:=by omega
  rw[decide_eq_false b1] at A1
  have hset':List.take (y*4) (v8 (G8 z ((L.drop at_).take k)))++ [D.sc (.int .u8 1),.sc (.bool false),.sc (.int .i64 0),.sc (.int .i64 0)]++List.drop (y*4+4) (v8 (G8 z ((L.drop at_).take k)))=v8 (G8 z ((L.drop at_).take (k+1))):=A1
  simp (disch:=first|omega|assumption|exact f8|exact Or.inl rfl|exact Or.inl trivial|exact j6 _ (fun _=>rfl) _|(simp only[d9]<;>omega)|fail) only[WA,a8,b8,Nat.reduceEqDiff,Nat.reduceLT,Nat.reduceAdd,Nat.reduceBEq,Int.reduceAdd,Int.reduceSub,Int.reduceLT,Int.reduceLE,Int.reduceEq,Int.reduceNeg,↓reduceIte,reduceCtorEq,List.replicate,yG,a0,a2,a3,bK,hset']
  all_goals try (exfalso;omega)
  exact ⟨z - (k+1),_,_,by omega,o7 [(3,3),(2,2),(1,1),(0,0)] 4 h0 rfl rfl rfl rfl,k+1,rfl,by omega,by omega,hall2,by rw[hnx];rfl,rfl⟩
end
theorem PP (L:List v4):bG L≤L.length - 1:=by
 unfold bG
 have:=(List.takeWhile_sublist TC (l:=L.drop 1)).length_le
 rw[List.length_drop] at this
 exact this
section
variable (w:World) (n:Nat)
theorem aJ8 {C:C6} (hC:C.E=EN w (n+1)) (h0:C.w0.nx=0) (L:List v4) (hL:L.length≤2000) {K:List KF} {P:A3}
  (hbad:O3 L=none→∀ st,i7 st.own 0=some Y3→st.ro=0→gK C K .ret [(2,.ptr 0 0),(3,iN 12)] st P)
  (hgo:∀ R,O3 L=some R→bT R→R.length≤2000→∀ v6 v51,gK C K (.exit 2) [(0,jS 3 L),(2,.ptr 0 0),(4,iN (bG L)),(5,.ptr 1 0),(6,v6),(51,v51)] ⟨[(2,Y8 R),(1,.box 31 1 [iN (bG L),.gr 2 2 R.length]),(0,Y3)],3,0⟩ P):
  gL C [0,2,4,5,6] VU K [(0,jS 3 L),(2,.ptr 0 0),(4,iN (bG L)),(5,.ptr 1 0),(6,iN ((1+bG L:Nat):Int))] ⟨[(1,.box 31 1 [iN (bG L),.sc (.slice none 0 0)]),(0,Y3)],2,0⟩ P:=by
 have hrn:C.E.rounds=x8:=by rw[hC,j8]
 have hil:=l7 L
 have hle:=PP L
 have hz2:bG L≤2000:=by omega
 have hrd:bG L ≠ 0→O3 L=GR (bG L) L.length (L.drop (1+bG L)) []:=fun h=>by unfold O3;rw[if_neg h]
 have hrd0:bG L=0→O3 L=some []:=fun h=>by unfold O3;rw[if_pos h]
 generalize bG L=z at*
 refine nA (oF (C:=C) (st:=⟨[(1,.box 31 1 [iN z,.sc (.slice none 0 0)]),(0,Y3)],2,0⟩) (l:= [iN z,.sc (.slice none 0 0)]) 1 31 1 1 55 2 rfl rfl (fun h=>absurd (show (1:Nat)=2 from h) (by decide))) ?_
 by_cases hz:z=0
 ·subst hz
  have hgo:=hgo [] (hrd0 rfl) (fun r h=>by cases h) (by simp)
  refine n9 (fun m fr s=>m=0∧fr= [(0,jS 3 L),(2,.ptr 0 0),(4,iN 0),(5,.ptr 1 0),(6,iN 1)]∧s=⟨[(2,Y8 []),(1,.box 31 1 [iN 0,.gr 2 2 0]),(0,Y3)],3,0⟩) 0 ?_ ⟨_,_,.refl _ _,rfl,rfl,rfl⟩ ?_
  ·rw[hrn];unfold x8;omega
  rintro m fr s ⟨rfl,rfl,rfl⟩
  by_cases hT:1<L.length
  ·simp (disch:=first|omega|assumption|exact f8|exact Or.inl rfl|exact Or.inl trivial|exact j6 _ (fun _=>rfl) _|(simp only[d9]<;>omega)|fail) only[WA,a8,b8,Nat.reduceEqDiff,Nat.reduceLT,Nat.reduceAdd,Nat.reduceBEq,Int.reduceAdd,Int.reduceSub,Int.reduceLT,Int.reduceLE,Int.reduceEq,Int.reduceNeg,↓reduceIte,reduceCtorEq,List.replicate,VU]
   all_goals try (exfalso;omega)
   exact hgo _ _
  ·simp (disch:=first|omega|assumption|exact f8|exact Or.inl rfl|exact Or.inl trivial|exact j6 _ (fun _=>rfl) _|(simp only[d9]<;>omega)|fail) only[WA,a8,b8,Nat.reduceEqDiff,Nat.reduceLT,Nat.reduceAdd,Nat.reduceBEq,Int.reduceAdd,Int.reduceSub,Int.reduceLT,Int.reduceLE,Int.reduceEq,Int.reduceNeg,↓reduceIte,reduceCtorEq,List.replicate,VU]
   all_goals try (exfalso;omega)
   exact hgo _ _
 have hrd:=hrd hz
 rw[hrd] at hgo hbad
 clear hrd0
 refine n9 (fun m fr s=>∃ (q:Nat) (acc:List (Bool × List q8)),q≤L.length∧L.length - q≤m∧GR z L.length (L.drop (1+z)) []=GR z m (L.drop q) acc∧acc.length+m≤2000∧bT acc∧fr= [(0,jS 3 L),(2,.ptr 0 0),(4,iN z),(5,.ptr 1 0),(6,iN q)]∧s=⟨[(2,Y8 acc),(1,.box 31 1 [iN z,.gr 2 2 acc.length]),(0,Y3)],3,0⟩) L.length ?_ ⟨_,_,.refl _ _,1+z,[],by omega,by omega,rfl,by simp;omega,(fun r h=>by cases h),rfl,rfl⟩ ?_
 ·rw[hrn];unfold x8;omega
 rintro m fr s ⟨q,acc,hq,hm,hinv,hal,hK,rfl,rfl⟩
 by_cases hT:q=L.length
 ·rw[hT,List.drop_length,FP] at hinv
  have hgo:=hgo acc hinv hK (by omega)
  rw[hT]
  simp (disch:=first|omega|assumption|exact f8|exact Or.inl rfl|exact Or.inl trivial|exact j6 _ (fun _=>rfl) _|(simp only[d9]<;>omega)|fail) only[WA,a8,b8,Nat.reduceEqDiff,Nat.reduceLT,Nat.reduceAdd,Nat.reduceBEq,Int.reduceAdd,Int.reduceSub,Int.reduceLT,Int.reduceLE,Int.reduceEq,Int.reduceNeg,↓reduceIte,reduceCtorEq,List.replicate,VU]
  all_goals try (exfalso;omega)
  exact hgo _ _
 have hlt:q<L.length:=by omega
 have hne:L.drop q ≠ []:=fun h=>by have:=congrArg List.length h;rw[List.length_drop] at this;simp at this;omega
 have hdq:(L.drop q).length≤m:=by rw[List.length_drop];exact hm
 have hmk:=fun nx t=>kS nx t z (by omega)
 simp (disch:=first|omega|assumption|exact f8|exact Or.inl rfl|exact Or.inl trivial|exact j6 _ (fun _=>rfl) _|(simp only[d9]<;>omega)|fail) only[WA,a8,b8,Nat.reduceEqDiff,Nat.reduceLT,Nat.reduceAdd,Nat.reduceBEq,Int.reduceAdd,Int.reduceSub,Int.reduceLT,Int.reduceLE,Int.reduceEq,Int.reduceNeg,↓reduceIte,reduceCtorEq,List.replicate,VU]
 all_goals try (exfalso;omega)
 refine nA (mA [0,2,4,5,6] rfl) ?_
 refine aJ9 w n hC h0 L hL z q hq _ fun p v63 hp hpl=>?_
 simp (disch:=first|omega|assumption|exact f8|exact Or.inl rfl|exact Or.inl trivial|exact j6 _ (fun _=>rfl) _|(simp only[d9]<;>omega)|fail) only[WA,a8,b8,Nat.reduceEqDiff,Nat.reduceLT,Nat.reduceAdd,Nat.reduceBEq,Int.reduceAdd,Int.reduceSub,Int.reduceLT,Int.reduceLE,Int.reduceEq,Int.reduceNeg,↓reduceIte,reduceCtorEq,List.replicate,hmk]
 have hns:=@BH z (L.drop q)
 have hnb:=@TH z (L.drop q)
 have hno:=@aF6 z (L.drop q)
 rw[← hp] at hns hnb hno
 refine aU4 w n hC h0 L hL z p hz2 hpl acc (fun hb st e1 e2=>hbad (by rw[hinv];exact vW hne hdq (hb.elim hns hnb)) st e1 e2) (fun hs ho v70=>?_)
 obtain ⟨g,rfl,hg⟩:=LH (acc:=acc) hne hdq (hno hs ho)
 rw[hg] at hinv
 simp only[List.drop_drop] at hinv
 rw[List.length_drop] at hs
 have hsl:=v3 (G8 z ((L.drop p).take z))
 rw[T2] at hsl
 have hsb:cH [(4,.box 55 2 [.sc (.bool false),.ref 3 0 z z]),(3,MO (G8 z ((L.drop p).take z))),(2,Y8 acc),(1,.box 31 1 [iN z,.gr 2 2 acc.length]),(0,Y3)] 2 0 1 (some (.box 55 2 [.sc (.bool false),.ref 3 0 z z]))=some (1,[.sc (.bool false),.sl 0 z (v8 (G8 z ((L.drop p).take z)))],[3]):=MF rfl hsl
 have hsn:=wF 0 acc false (G8 z ((L.drop p).take z))
 rw[T2] at hsn
 have hrL:=E6 0 acc
 have hok:=LU acc
 have hKs:=oI hz2 hK ((L.drop p).take z)
 have hpq:L.length - p≤L.length - q:=by
  have:=aA4 (L.drop q)
  rw[← hp,List.length_drop,List.length_drop] at this
  exact this
 simp (disch:=first|omega|assumption|exact f8|exact Or.inl rfl|exact Or.inl trivial|exact j6 _ (fun _=>rfl) _|(simp only[d9]<;>omega)|fail) only[WA,a8,b8,Nat.reduceEqDiff,Nat.reduceLT,Nat.reduceAdd,Nat.reduceBEq,Int.reduceAdd,Int.reduceSub,Int.reduceLT,Int.reduceLE,Int.reduceEq,Int.reduceNeg,↓reduceIte,reduceCtorEq,List.replicate,LR,hsb]
 all_goals try (exfalso;omega)
 exact ⟨g,_,_,by omega,o7 [(5,2),(1,1),(0,0)] 3 h0 rfl rfl rfl rfl,p+z,acc++ [(false,G8 z ((L.drop p).take z))],by omega,by omega,hinv,by rw[List.length_append];simp only[List.length_cons,List.length_nil];omega,hKs,rfl,by rw[List.length_append];simp only[Y8];rw[hsn];rfl⟩
theorem aU5 (L:List v4) (hLL:L.length≤140737488351232):n5 (EN w (n+7)) 8 [jS 3 L] (bB8 (nV L)) ⟨[],0,0⟩:=by
 have hil:=l7 L
 have hlk:=uW w (n+5) 3 L hLL
 unfold nV
 refine N2 rfl rfl (fun _ _=>rfl) (Nat.le_of_ble_eq_true rfl) (k9 w) rM rfl fun C hC h0=>?_
 by_cases h2:2000<L.length
 ·rw[if_pos h2] at hlk ⊢
  simp (disch:=first|omega|assumption|exact f8|exact Or.inl rfl|exact Or.inl trivial|exact j6 _ (fun _=>rfl) _|(simp only[d9]<;>omega)|fail) only[WA,a8,b8,Nat.reduceEqDiff,Nat.reduceLT,Nat.reduceAdd,Nat.reduceBEq,Int.reduceAdd,Int.reduceSub,Int.reduceLT,Int.reduceLE,Int.reduceEq,Int.reduceNeg,↓reduceIte,reduceCtorEq,List.replicate,c8]
  refine a9 (by rw[hC];exact hlk.flat rfl rfl) ?_
  simp (disch:=first|omega|assumption|exact f8|exact Or.inl rfl|exact Or.inl trivial|exact j6 _ (fun _=>rfl) _|(simp only[d9]<;>omega)|fail) only[WA,a8,b8,Nat.reduceEqDiff,Nat.reduceLT,Nat.reduceAdd,Nat.reduceBEq,Int.reduceAdd,Int.reduceSub,Int.reduceLT,Int.reduceLE,Int.reduceEq,Int.reduceNeg,↓reduceIte,reduceCtorEq,List.replicate]
  exact H1 h0 rfl
 rw[if_neg h2] at hlk ⊢
 have hz2:=PP L
 have h1k:(1+((bG L:Nat):Int))=((1+bG L:Nat):Int):=by omega
 simp (disch:=first|omega|assumption|exact f8|exact Or.inl rfl|exact Or.inl trivial|exact j6 _ (fun _=>rfl) _|(simp only[d9]<;>omega)|fail) only[WA,a8,b8,Nat.reduceEqDiff,Nat.reduceLT,Nat.reduceAdd,Nat.reduceBEq,Int.reduceAdd,Int.reduceSub,Int.reduceLT,Int.reduceLE,Int.reduceEq,Int.reduceNeg,↓reduceIte,reduceCtorEq,List.replicate,c8]
 refine a9 (by rw[hC];exact hlk.flat rfl rfl) ?_
 simp (disch:=first|omega|assumption|exact f8|exact Or.inl rfl|exact Or.inl trivial|exact j6 _ (fun _=>rfl) _|(simp only[d9]<;>omega)|fail) only[WA,a8,b8,Nat.reduceEqDiff,Nat.reduceLT,Nat.reduceAdd,Nat.reduceBEq,Int.reduceAdd,Int.reduceSub,Int.reduceLT,Int.reduceLE,Int.reduceEq,Int.reduceNeg,↓reduceIte,reduceCtorEq,List.replicate]
 refine aU3 w (n+5) hC h0 L (by omega) _ fun v37=>?_
 simp (disch:=first|omega|assumption|exact f8|exact Or.inl rfl|exact Or.inl trivial|exact j6 _ (fun _=>rfl) _|(simp only[d9]<;>omega)|fail) only[WA,a8,b8,Nat.reduceEqDiff,Nat.reduceLT,Nat.reduceAdd,Nat.reduceBEq,Int.reduceAdd,Int.reduceSub,Int.reduceLT,Int.reduceLE,Int.reduceEq,Int.reduceNeg,↓reduceIte,reduceCtorEq,List.replicate,h1k]
 all_goals try (exfalso;omega)
 refine aJ8 w (n+5) hC h0 L (by omega) (fun hr st e1 e2=>?_) (fun R hr hKR hRl v6 v51=>?_)
 ·rw[hr]
  simp (disch:=first|omega|assumption|exact f8|exact Or.inl rfl|exact Or.inl trivial|exact j6 _ (fun _=>rfl) _|(simp only[d9]<;>omega)|fail) only[WA,a8,b8,Nat.reduceEqDiff,Nat.reduceLT,Nat.reduceAdd,Nat.reduceBEq,Int.reduceAdd,Int.reduceSub,Int.reduceLT,Int.reduceLE,Int.reduceEq,Int.reduceNeg,↓reduceIte,reduceCtorEq,List.replicate,e1]
  exact H1 h0 e2
 rw[hr]
 simp only
 have h0R:(bG L:Int)=0→R= []:=fun h=>by
  unfold O3 at hr
  rw[if_pos (by omega)] at hr
  exact (Option.some.inj hr).symm
 have hcm:=PO w n 2 0 (bG L) R (by omega) hKR h0R
 have hcl:=zL ((bG L:Int),R)
 have hrL:=E6 0 R
 generalize mQ ((bG L:Int),R)=pe at*
 obtain ⟨p,e⟩:=pe
 simp only at hcl
 have hje:=EY w (n+5) 3 3 p L (by omega) hLL
 simp (disch:=first|omega|assumption|exact f8|exact Or.inl rfl|exact Or.inl trivial|exact j6 _ (fun _=>rfl) _|(simp only[d9]<;>omega)|fail) only[WA,a8,b8,Nat.reduceEqDiff,Nat.reduceLT,Nat.reduceAdd,Nat.reduceBEq,Int.reduceAdd,Int.reduceSub,Int.reduceLT,Int.reduceLE,Int.reduceEq,Int.reduceNeg,↓reduceIte,reduceCtorEq,List.replicate]
 refine aQ (by rw[hC];exact hcm) (MD rfl hrL) rfl rfl ?_
 simp only[Prod.mk.injEq]
 by_cases he:e=0
 ·subst he
  simp (disch:=first|omega|assumption|exact f8|exact Or.inl rfl|exact Or.inl trivial|exact j6 _ (fun _=>rfl) _|(simp only[d9]<;>omega)|fail) only[WA,a8,b8,Nat.reduceEqDiff,Nat.reduceLT,Nat.reduceAdd,Nat.reduceBEq,Int.reduceAdd,Int.reduceSub,Int.reduceLT,Int.reduceLE,Int.reduceEq,Int.reduceNeg,↓reduceIte,reduceCtorEq,List.replicate,oH,rP,PZ,oE,R5,bS]
  refine a9 (by rw[hC];exact hje.flat rfl rfl) ?_
  by_cases hp:p=L
  ·rw[if_pos ⟨hp,trivial⟩,decide_eq_true hp]
   simp (disch:=first|omega|assumption|exact f8|exact Or.inl rfl|exact Or.inl trivial|exact j6 _ (fun _=>rfl) _|(simp only[d9]<;>omega)|fail) only[WA,a8,b8,Nat.reduceEqDiff,Nat.reduceLT,Nat.reduceAdd,Nat.reduceBEq,Int.reduceAdd,Int.reduceSub,Int.reduceLT,Int.reduceLE,Int.reduceEq,Int.reduceNeg,↓reduceIte,reduceCtorEq,List.replicate]
   exact xW (wQ rfl hrL) rfl (.inl (by decide)) h0 rfl
  ·rw[if_neg (fun h=>hp h.1),decide_eq_false hp]
   simp (disch:=first|omega|assumption|exact f8|exact Or.inl rfl|exact Or.inl trivial|exact j6 _ (fun _=>rfl) _|(simp only[d9]<;>omega)|fail) only[WA,a8,b8,Nat.reduceEqDiff,Nat.reduceLT,Nat.reduceAdd,Nat.reduceBEq,Int.reduceAdd,Int.reduceSub,Int.reduceLT,Int.reduceLE,Int.reduceEq,Int.reduceNeg,↓reduceIte,reduceCtorEq,List.replicate]
   exact H1 h0 rfl
 ·rw[if_neg (fun h=>he h.2)]
  simp (disch:=first|omega|assumption|exact f8|exact Or.inl rfl|exact Or.inl trivial|exact j6 _ (fun _=>rfl) _|(simp only[d9]<;>omega)|fail) only[WA,a8,b8,Nat.reduceEqDiff,Nat.reduceLT,Nat.reduceAdd,Nat.reduceBEq,Int.reduceAdd,Int.reduceSub,Int.reduceLT,Int.reduceLE,Int.reduceEq,Int.reduceNeg,↓reduceIte,reduceCtorEq,List.replicate,oH,rP,PZ,oE,R5,bS]
  all_goals try (exfalso;omega)
  all_goals exact H1 h0 rfl
end
theorem bB7 {z:Nat} (hz:z≤2000):∀ {f:Nat} {rest:List v4} {acc R:List (Bool × List q8)},GR z f rest acc=some R→bT acc→acc.length+f≤2000→bT R∧R.length≤2000
 |0,_,_,_,h,hK,hl=>by simp only[GR,Option.some.injEq] at h;subst h;exact ⟨hK,by omega⟩
 |f+1,rest,acc,R,h,hK,hl=>by
  by_cases hr:rest= []
  ·subst hr;rw[FP] at h;cases h;exact ⟨hK,by omega⟩
  simp only[GR] at h
  rw[if_neg hr] at h
  cases hn:nxt z rest with
  |none=>rw[hn] at h;cases h
  |some p=>
   rw[hn] at h
   simp only at h
   have hp:p.1=G8 z ((rest.dropWhile mD).take z):=by
    unfold nxt at hn
    split at hn
    ·cases hn
    split at hn
    ·cases hn;rfl
    ·cases hn
   rw[hp] at h
   exact bB7 hz h (oI hz hK _) (by rw[List.length_append];simp only[List.length_cons,List.length_nil];omega)
theorem aT9 (L:List v4):bT (nV L).1.2∧(nV L).1.2.length≤2000:=by
 unfold nV
 by_cases h2:2000<L.length
 ·rw[if_pos h2];exact ⟨(fun r h=>by cases h),by simp⟩
 rw[if_neg h2]
 have hz:=PP L
 cases hr:O3 L with
 |none=>exact ⟨(fun r h=>by cases h),by simp⟩
 |some R=>
  simp only
  have hR:bT R∧R.length≤2000:=by
   unfold O3 at hr
   split at hr
   ·cases hr;exact ⟨(fun r h=>by cases h),by simp⟩
   ·exact bB7 (by omega) hr (fun r h=>by cases h) (by simp;omega)
  split
  ·exact hR
  ·exact ⟨(fun r h=>by cases h),by simp⟩
section
variable (w:World) (n:Nat)
theorem aK3 (z:Int) (R:List (Bool × List q8)) (hR:R.length≤2000) (hK:bT R):n5 (EN w (n+2)) 9 [cM 3 0 (z,R),cM 3 0 (z,R)] (.sc (.bool true)) ⟨[],0,0⟩:=by
 have hil:=E6 0 R
 refine i9 rfl rfl (fun _ _=>rfl) (Nat.le_of_ble_eq_true rfl) (k9 w) rfl fun C hC h0=>?_
 have hrn:C.E.rounds=x8:=by rw[hC,j8]
 simp (disch:=first|omega|assumption|exact f8|exact Or.inl rfl|exact Or.inl trivial|exact j6 _ (fun _=>rfl) _|(simp only[d9]<;>omega)|fail) only[WA,a8,b8,Nat.reduceEqDiff,Nat.reduceLT,Nat.reduceAdd,Nat.reduceBEq,Int.reduceAdd,Int.reduceSub,Int.reduceLT,Int.reduceLE,Int.reduceEq,Int.reduceNeg,↓reduceIte,reduceCtorEq,List.replicate,c9]
 all_goals try (exfalso;omega)
 refine n9 (fun m fr st=>∃ (j:Nat),m=R.length - j∧j≤R.length∧fr= [(2,.ptr 0 0),(3,.ptr 1 0),(5,iN j)]∧st=⟨[(1,.box 31 1 [iN z,.sl 3 R.length (M1 0 R)]),(0,.box 31 1 [iN z,.sl 3 R.length (M1 0 R)])],2,0⟩) R.length ?_ ⟨_,_,.refl _ _,0,by omega,Nat.zero_le _,rfl,rfl⟩ ?_
 ·rw[hrn];unfold x8;omega
 rintro m fr st ⟨j,rfl,hj,rfl,rfl⟩
 by_cases hlt:j<R.length
 case neg=>
  have:j=R.length:=by omega
  subst this
  simp (disch:=first|omega|assumption|exact f8|exact Or.inl rfl|exact Or.inl trivial|exact j6 _ (fun _=>rfl) _|(simp only[d9]<;>omega)|fail) only[WA,a8,b8,Nat.reduceEqDiff,Nat.reduceLT,Nat.reduceAdd,Nat.reduceBEq,Int.reduceAdd,Int.reduceSub,Int.reduceLT,Int.reduceLE,Int.reduceEq,Int.reduceNeg,↓reduceIte,reduceCtorEq,List.replicate,aQ4]
  all_goals try (exfalso;omega)
  exact b9 rfl h0 rfl
 have a0:=BZ 0 R j hlt
 have a1:=jX 0 R j hlt
 have hk:=hK.at hlt
 generalize R[j]! =r at*
 obtain ⟨b,L⟩:=r
 simp only at a0 a1 hk
 have hsm:=aU6 w n 0 0 L L hk.2 hk.2
 rw[decide_eq_true rfl] at hsm
 cases b with
 |true=>
  simp (disch:=first|omega|assumption|exact f8|exact Or.inl rfl|exact Or.inl trivial|exact j6 _ (fun _=>rfl) _|(simp only[d9]<;>omega)|fail) only[WA,a8,b8,Nat.reduceEqDiff,Nat.reduceLT,Nat.reduceAdd,Nat.reduceBEq,Int.reduceAdd,Int.reduceSub,Int.reduceLT,Int.reduceLE,Int.reduceEq,Int.reduceNeg,↓reduceIte,reduceCtorEq,List.replicate,aQ4,a0,a1,pC,pB]
  all_goals try (exfalso;omega)
  refine a9 (by rw[hC];exact hsm.flat rfl rfl) ?_
  simp (disch:=first|omega|assumption|exact f8|exact Or.inl rfl|exact Or.inl trivial|exact j6 _ (fun _=>rfl) _|(simp only[d9]<;>omega)|fail) only[WA,a8,b8,Nat.reduceEqDiff,Nat.reduceLT,Nat.reduceAdd,Nat.reduceBEq,Int.reduceAdd,Int.reduceSub,Int.reduceLT,Int.reduceLE,Int.reduceEq,Int.reduceNeg,↓reduceIte,reduceCtorEq,List.replicate]
  exact ⟨R.length - (j+1),_,_,by omega,.refl _ _,j+1,rfl,by omega,rfl,rfl⟩
 |false=>
  simp (disch:=first|omega|assumption|exact f8|exact Or.inl rfl|exact Or.inl trivial|exact j6 _ (fun _=>rfl) _|(simp only[d9]<;>omega)|fail) only[WA,a8,b8,Nat.reduceEqDiff,Nat.reduceLT,Nat.reduceAdd,Nat.reduceBEq,Int.reduceAdd,Int.reduceSub,Int.reduceLT,Int.reduceLE,Int.reduceEq,Int.reduceNeg,↓reduceIte,reduceCtorEq,List.replicate,aQ4,a0,a1,pC,pB]
  all_goals try (exfalso;omega)
  refine a9 (by rw[hC];exact hsm.flat rfl rfl) ?_
  simp (disch:=first|omega|assumption|exact f8|exact Or.inl rfl|exact Or.inl trivial|exact j6 _ (fun _=>rfl) _|(simp only[d9]<;>omega)|fail) only[WA,a8,b8,Nat.reduceEqDiff,Nat.reduceLT,Nat.reduceAdd,Nat.reduceBEq,Int.reduceAdd,Int.reduceSub,Int.reduceLT,Int.reduceLE,Int.reduceEq,Int.reduceNeg,↓reduceIte,reduceCtorEq,List.replicate]
  exact ⟨R.length - (j+1),_,_,by omega,.refl _ _,j+1,rfl,by omega,rfl,rfl⟩
end
theorem bN7 (w:World) (A B:List v4) (hA:A.length≤140737488351232) (hB:B.length≤140737488351232) {C:C6} (hC:C.E=EN w 12) (h0:C.w0.nx=0):
  gC C c3.code [] (T9 0 [jS 3 A,jS 3 B]) ⟨[],0,0⟩ (oK C c3.res (.sc (.bool true)) ⟨[],0,0⟩):=by
 have hla:=UM w 11 3 A hA
 have hlb:=UM w 11 3 B hB
 simp (disch:=first|omega|assumption|exact f8|exact Or.inl rfl|exact Or.inl trivial|exact j6 _ (fun _=>rfl) _|(simp only[d9]<;>omega)|fail) only[WA,a8,b8,Nat.reduceEqDiff,Nat.reduceLT,Nat.reduceAdd,Nat.reduceBEq,Int.reduceAdd,Int.reduceSub,Int.reduceLT,Int.reduceLE,Int.reduceEq,Int.reduceNeg,↓reduceIte,reduceCtorEq,List.replicate,c3]
 refine a9 (by rw[hC];exact hla.flat rfl rfl) ?_
 by_cases g1:300<A.length∧A.length≤2000∨2100<A.length
 ·rw[decide_eq_true g1]
  simp (disch:=first|omega|assumption|exact f8|exact Or.inl rfl|exact Or.inl trivial|exact j6 _ (fun _=>rfl) _|(simp only[d9]<;>omega)|fail) only[WA,a8,b8,Nat.reduceEqDiff,Nat.reduceLT,Nat.reduceAdd,Nat.reduceBEq,Int.reduceAdd,Int.reduceSub,Int.reduceLT,Int.reduceLE,Int.reduceEq,Int.reduceNeg,↓reduceIte,reduceCtorEq,List.replicate]
  exact b9 rfl h0 rfl
 rw[decide_eq_false g1]
 simp (disch:=first|omega|assumption|exact f8|exact Or.inl rfl|exact Or.inl trivial|exact j6 _ (fun _=>rfl) _|(simp only[d9]<;>omega)|fail) only[WA,a8,b8,Nat.reduceEqDiff,Nat.reduceLT,Nat.reduceAdd,Nat.reduceBEq,Int.reduceAdd,Int.reduceSub,Int.reduceLT,Int.reduceLE,Int.reduceEq,Int.reduceNeg,↓reduceIte,reduceCtorEq,List.replicate]
 refine a9 (by rw[hC];exact hlb.flat rfl rfl) ?_
 by_cases g2:300<B.length∧B.length≤2000∨2100<B.length
 ·rw[decide_eq_true g2]
  simp (disch:=first|omega|assumption|exact f8|exact Or.inl rfl|exact Or.inl trivial|exact j6 _ (fun _=>rfl) _|(simp only[d9]<;>omega)|fail) only[WA,a8,b8,Nat.reduceEqDiff,Nat.reduceLT,Nat.reduceAdd,Nat.reduceBEq,Int.reduceAdd,Int.reduceSub,Int.reduceLT,Int.reduceLE,Int.reduceEq,Int.reduceNeg,↓reduceIte,reduceCtorEq,List.replicate]
  exact b9 rfl h0 rfl
 rw[decide_eq_false g2]
 have q1:=aE4 w 6 A B (by omega) (by omega)
 have q2:=XK w 8 A B (by omega) (by omega)
 have q3:=bH3 w 0 A hA
 have q4:=aU5 w 5 A hA
 have hrk:=aT9 A
 have hrl:=E6 0 (nV A).1.2
 generalize hlf:aE3 A B=lf at*
 generalize hrf:nV A=rf at*
 obtain ⟨x1,x2,x3⟩:=lf
 obtain ⟨⟨z,R⟩,e⟩:=rf
 simp only at hrk hrl
 have q5:=aK3 w 10 z R hrk.2 hrk.1
 simp (disch:=first|omega|assumption|exact f8|exact Or.inl rfl|exact Or.inl trivial|exact j6 _ (fun _=>rfl) _|(simp only[d9]<;>omega)|fail) only[WA,a8,b8,Nat.reduceEqDiff,Nat.reduceLT,Nat.reduceAdd,Nat.reduceBEq,Int.reduceAdd,Int.reduceSub,Int.reduceLT,Int.reduceLE,Int.reduceEq,Int.reduceNeg,↓reduceIte,reduceCtorEq,List.replicate]
 refine a9 (by rw[hC];exact q1.flat rfl rfl) ?_
 unfold aS0
 simp (disch:=first|omega|assumption|exact f8|exact Or.inl rfl|exact Or.inl trivial|exact j6 _ (fun _=>rfl) _|(simp only[d9]<;>omega)|fail) only[WA,a8,b8,Nat.reduceEqDiff,Nat.reduceLT,Nat.reduceAdd,Nat.reduceBEq,Int.reduceAdd,Int.reduceSub,Int.reduceLT,Int.reduceLE,Int.reduceEq,Int.reduceNeg,↓reduceIte,reduceCtorEq,List.replicate]
 refine a9 (by rw[hC];exact q2.flat rfl rfl) ?_
 unfold aS0
 simp (disch:=first|omega|assumption|exact f8|exact Or.inl rfl|exact Or.inl trivial|exact j6 _ (fun _=>rfl) _|(simp only[d9]<;>omega)|fail) only[WA,a8,b8,Nat.reduceEqDiff,Nat.reduceLT,Nat.reduceAdd,Nat.reduceBEq,Int.reduceAdd,Int.reduceSub,Int.reduceLT,Int.reduceLE,Int.reduceEq,Int.reduceNeg,↓reduceIte,reduceCtorEq,List.replicate]
 refine M3 (by rw[hC];exact q3) rfl rfl (fun _=>rfl) ?_
 simp (disch:=first|omega|assumption|exact f8|exact Or.inl rfl|exact Or.inl trivial|exact j6 _ (fun _=>rfl) _|(simp only[d9]<;>omega)|fail) only[WA,a8,b8,Nat.reduceEqDiff,Nat.reduceLT,Nat.reduceAdd,Nat.reduceBEq,Int.reduceAdd,Int.reduceSub,Int.reduceLT,Int.reduceLE,Int.reduceEq,Int.reduceNeg,↓reduceIte,reduceCtorEq,List.replicate]
 refine M3 (by rw[hC];exact q4) rfl rfl (fun _=>rfl) ?_
 simp (disch:=first|omega|assumption|exact f8|exact Or.inl rfl|exact Or.inl trivial|exact j6 _ (fun _=>rfl) _|(simp only[d9]<;>omega)|fail) only[WA,a8,b8,Nat.reduceEqDiff,Nat.reduceLT,Nat.reduceAdd,Nat.reduceBEq,Int.reduceAdd,Int.reduceSub,Int.reduceLT,Int.reduceLE,Int.reduceEq,Int.reduceNeg,↓reduceIte,reduceCtorEq,List.replicate]
 refine a9 (by rw[hC];exact q5.flat rfl rfl) ?_
 simp (disch:=first|omega|assumption|exact f8|exact Or.inl rfl|exact Or.inl trivial|exact j6 _ (fun _=>rfl) _|(simp only[d9]<;>omega)|fail) only[WA,a8,b8,Nat.reduceEqDiff,Nat.reduceLT,Nat.reduceAdd,Nat.reduceBEq,Int.reduceAdd,Int.reduceSub,Int.reduceLT,Int.reduceLE,Int.reduceEq,Int.reduceNeg,↓reduceIte,reduceCtorEq,List.replicate]
 exact b9 rfl h0 rfl
end Go.Proofs.Ytgohenjcanfolaa
namespace Go.Proofs.Ytgohenjcanfolaa
open Go Go.Itp
open Go.ChangeShapes Go.WideShapes Go.ChangeAt Go.RowKit
set_option linter.unusedVariables false
theorem aI7:reachBytes≤140737488351232:=by decide
theorem ZL:Try.prog.cellsOf 40=7:=by kernel_rfl
theorem DX:Try.prog.bytesOf 40=40:=by kernel_rfl
theorem zX {H:Type} {enc:TypeId × Value→H} {W:World} {held:Bool} (cs:List Value) (n:Nat) (y:DataW H × List MemPlace) (hl:cs.length=7) (h:DataW.trod enc Try.prog W 0 (fun _=>true) held n 40 cs=some y):∃ i:v4,cs=bA i:=by
 obtain ⟨m,a0,a1,a2,a3,a4,a5,a6,rfl,⟨y0,h0⟩,⟨y1,h1⟩,⟨y2,h2⟩,⟨y3,h3⟩,⟨y4,h4⟩,⟨y5,h5⟩,y6,h6⟩:=WE Try.underlying40 rfl rfl rfl rfl rfl rfl rfl (by kernel_rfl) (by kernel_rfl) (by kernel_rfl) (by kernel_rfl) (by kernel_rfl) (by kernel_rfl) (by kernel_rfl) cs n y hl h
 obtain ⟨x0,k0,_,j0⟩:=DataW.trod_int Try.underlying5 h0
 obtain ⟨x1,k1⟩:=ZY Try.underlying4 _ _ _ h1
 obtain ⟨x2,k2,_,j2⟩:=DataW.trod_int Try.underlying5 h2
 obtain ⟨x3,k3,_⟩:=DataW.trod_int Try.underlying3 h3
 obtain ⟨x4,k4,_⟩:=DataW.trod_int Try.underlying3 h4
 obtain ⟨x5,k5,_⟩:=DataW.trod_int Try.underlying3 h5
 obtain ⟨x6,k6,_⟩:=DataW.trod_int Try.underlying3 h6
 simp only[List.cons.injEq,and_true] at k0 k2 k3 k4 k5 k6
 have b0:=wf8 j0
 have b2:=wf8 j2
 obtain ⟨u0,rfl⟩:=Int.eq_ofNat_of_zero_le b0.1
 obtain ⟨u2,rfl⟩:=Int.eq_ofNat_of_zero_le b2.1
 exact ⟨⟨u0,x1,u2,x3,x4,x5,x6⟩,by rw[k0,k1,k2,k3,k4,k5,k6];rfl⟩
set_option maxRecDepth 100000 in
theorem uV (os:Os) (started:os.Started) (H:Type) (enc:TypeId × Value→H):
  ReturnsInHanded {} Try.checked os 3 .any (Rows.knitlogLocatesSpec.pre6 enc Try.prog Try.f3 Rows.knitlogLocatesRow.domain false) (Rows.knitlogLocatesSpec.post enc Try.prog Try.f3 false true false false):=by
 refine returnsInHanded_of_change_sized (C:=Try.checked) own started (by kernel_rfl) Try.func3
  (ChangeSpec.witness6 (enc:=enc) (C:=Try.checked) false ⟨#[],#[.slice none 0 0,.slice none 0 0],[]⟩ 8 (by kernel_rfl) (by kernel_rfl) (by kernel_rfl) (by kernel_rfl)) ?_
 intro W base args ds gs before hval0 hW _ hsz0 _
 have hsz:(DataW.weightsEach Try.prog (Try.f3.params.toList++Rows.knitlogLocatesSpec.plain.varTypes Try.prog) (ds++gs)).all (· ≤reachBytes)=true:=hsz0
 have hval:∀ (j:Nat) t v,Try.f3.params[j]? =some t→args[j]? =some v→Value.okWide Try.prog W .any base t v:=hval0
 have hW':=hW
 obtain ⟨p,q,hA0,hV,rfl,hfz,hnd⟩:=hW
 have hA:DataW.TrodAll enc Try.prog W 0 (fun _=>true) true Try.f3.params.toList args.toList ds p:=hA0
 rw[Try.params3] at hA hval hsz
 obtain ⟨v0,vs0,d0,ds0,p0,q0,hargs,rfl,rfl,h0,r0⟩:=trodAll_cons hA
 obtain ⟨v1,vs1,d1,ds1,p1,q1,rfl,rfl,rfl,h1,r1⟩:=trodAll_cons r0
 obtain ⟨rfl,rfl,rfl⟩:=trodAll_nil r1
 obtain rfl:args=#[v0,v1]:=by cases args;simp_all
 obtain ⟨l0,hv0,hli0,hlr0⟩:=rK (α:=v4) (g:=bA) (q:=7) (by decide) (fun a=>⟨rfl,fun c hc=>by simp[bA] at hc;rcases hc with rfl|rfl|rfl|rfl|rfl|rfl|rfl<;>rfl⟩) Try.underlying22 ZL (by rw[DX];decide) (hval 0 22 v0 rfl rfl) h0 (xY (j:=0) hsz rfl rfl) (fun cs n y hl hy=>zX cs n y hl hy)
 rw[DX] at hlr0
 have hv0:d7 (QM (L0 W)) (.sl 3 l0.length (p8 l0)) v0:=hv0
 obtain ⟨l1,hv1,hli1,hlr1⟩:=rK (α:=v4) (g:=bA) (q:=7) (by decide) (fun a=>⟨rfl,fun c hc=>by simp[bA] at hc;rcases hc with rfl|rfl|rfl|rfl|rfl|rfl|rfl<;>rfl⟩) Try.underlying22 ZL (by rw[DX];decide) (hval 1 22 v1 rfl rfl) h1 (xY (j:=1) hsz rfl rfl) (fun cs n y hl hy=>zX cs n y hl hy)
 rw[DX] at hlr1
 have hv1:d7 (QM (L0 W)) (.sl 3 l1.length (p8 l1)) v1:=hv1
 have hr:=aI7
 obtain ⟨s',hbody⟩:=bN8 (old:=L0 W) (rounds:=x8) (fns:=fns) (prims:=PR W) (n:=12) (af:=c3) (xs:= [jS 3 l0,jS 3 l1]) (xsI:= [v0,v1]) (x:= .bool true) (Nat.le_of_ble_eq_true rfl)
  (by simp only[f9];exact ⟨_,_,rfl,hv0,_,_,rfl,hv1,rfl⟩) fun C hC hn=>bN7 W l0 l1 (by omega) (by omega) hC hn
 refine (bF1 bO2 bE6 aG7 (f:=3) (af:=c3) rfl W (xs:= [v0,v1]) (by rw[pJ,pJ,hli0,hli1];rfl) _ hbody rfl).mono fun e W' ⟨he,hbe⟩=>?_
 exact ⟨_,he,aD9 hW' rfl rfl (by kernel_rfl) (by kernel_rfl) Try.underlying4 hbe⟩
theorem FD:Rows.knitlogLocatesRow.holds Try.pinned (OpenSpec.ofChange Rows.knitlogLocatesSpec):=
 OpenClaim.holds_of_wide 3 Try.f3 rfl rfl rfl rfl rfl rfl rfl ⟨rfl,rfl,rfl,rfl,rfl⟩ rfl rfl rfl rfl rfl (by kernel_rfl) Try.func3 (by kernel_rfl)
  (of_decide_eq_true (by kernel_rfl)) (by unfold Func.isWrapper;first|(rw[if_pos (by decide+kernel)];kernel_rfl)|(rw[if_neg (by decide+kernel)];exact ⟨rfl,rfl⟩))
  (fun os started H enc _=>uV os started H enc)
theorem locates_holds:Rows.KnitlogLocatesSaid:=FD
#print axioms locates_holds
end Go.Proofs.Ytgohenjcanfolaa
