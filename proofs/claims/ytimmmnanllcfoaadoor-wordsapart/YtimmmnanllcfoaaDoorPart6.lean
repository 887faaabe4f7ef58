/- What is proved: the law WordsApart returns true for every input. Conditions: none beyond the card's own.
   Texts: Q41k, Q41l, Q41m, Q41n, Q41o, P41g, P41h, P41i, Q42g, Q42h, Q42i, Q41p, Q41q, Q41r, Q41u, Q41v, Q41w, Q42c, Q42d, Q42e, Q42f, Q42j, Q42k, Q42m, Q42n.
-/
import Derived.Test.YtimmmnanllcfoaaDoorPart5
import Derived.Test.YtimmmnanllcfoaaDoorCards
import Derived.Test.YtimmmnanllcfoaaDoorTie
import Derived.SizedLaws
import Derived.ChangeAt
import Derived.SevenTiedAt
import Derived.Stop.Joined
import Derived.Lay
namespace Go.Proofs.YtimmmnanllcfoaaDoor
open Go Go.Itp
set_option maxRecDepth 100000
set_option maxHeartbeats 400000
set_option linter.unusedSimpArgs false
set_option linter.unusedVariables false
abbrev SU (p:List p9 × Int):V:= .tup [.sl 3 p.1.length (q9 p.1),.sc (.int .i64 p.2)]
theorem O8 (nx t:Nat) (a b c d:Value):M4 nx t 4 1 [.int .u8 0,.bool false,.int .i64 0,.int .i64 0] [(0,4,.agg [.sc a,.sc b,.sc c,.sc d])]=some (.ref nx 0 1 1,some (.row t 4 false false [.sc a,.sc b,.sc c,.sc d]),[]):=(rfl)
theorem V0 {H:E1} {o t n:Nat} {z:Bool} {l:List D} (h:f7 H o=some (.gro t 4 z l)) (hl:l.length=n*4):y7 H (.gr 2 o n)=some (.sl 2 n l):=by
 simp only[y7,cW,h]
 rw[if_pos ⟨hl,by decide,by decide,by decide⟩]
 rfl
theorem kZ {H:E1} {v v':V} (h:y7 H v=some v'):I2 H [v]=some [v']:=by simp only[I2,h,Option.bind_some,Option.map_some]
theorem QJ (A B:List p9):q9 (A++B)=q9 A++q9 B:=by simp[q9]
theorem FO (A:List p9) (x:p9):q9 (A++ [x])=q9 A++ [.sc (.int .u8 x.kind),.sc (.bool x.purl),.sc (.int .i64 x.a),.sc (.int .i64 x.b)]:=by simp[q9]
theorem aA6 (a b:Go.Itp.Obj):∀ o ob,f7 ([(0,a),(1,b)]:E1) o=some ob→f7 ([(1,b),(0,a)]:E1) o=some ob:=by
 intro o ob
 rcases (by omega:o=0∨o=1∨2≤o) with rfl|rfl|h
 ·exact id
 ·exact id
 ·intro e
  rw[l6,if_neg (by omega),l6,if_neg (by omega)] at e
  cases e
section
variable (w:World) (n:Nat)
theorem aS7 {C:D0} (hC:C.E=EN w (n+8)) (h0:C.w0.nx=0) (s:List UInt8) (q:List (List UInt8)) (np k:Int) (acc:List p9) (x:p9) (m:Nat) (hm:acc.length+m≤200) {K:List KF} {P:B9}
  (hgo:gK C K (.exit 2) [(0,o8 s),(4,.gr 2 0 (acc++List.replicate m x).length),(7,.ptr 1 0),(16,.sl 3 q.length (q.map sD)),(17,.sc (.int .i64 np)),(18,.sc (.int .i64 k)),(37,.sc (.int .i64 m)),(38,.sc (.int .i64 m)),(39,.sc (.bool false))] ⟨[(0,.gro 48 4 false (q9 (acc++List.replicate m x))),(1,cL x)],2,0⟩ P):
  gL C [0,4,7,16,17,18,37,38] WC K [(0,o8 s),(4,.gr 2 0 acc.length),(7,.ptr 1 0),(16,.sl 3 q.length (q.map sD)),(17,.sc (.int .i64 np)),(18,.sc (.int .i64 k)),(37,.sc (.int .i64 m)),(38,.sc (.int .i64 0))] ⟨[(1,cL x),(0,.gro 48 4 false (q9 acc))],2,0⟩ P:=by
 have hrn:C.E.rounds=F4:=by rw[hC,m7]
 refine A6 (fun mm fr st=>∃ i:Nat,mm=m - i∧i≤m∧fr= [(0,o8 s),(4,.gr 2 0 (acc++List.replicate i x).length),(7,.ptr 1 0),(16,.sl 3 q.length (q.map sD)),(17,.sc (.int .i64 np)),(18,.sc (.int .i64 k)),(37,.sc (.int .i64 m)),(38,.sc (.int .i64 i))]∧st=⟨[(0,.gro 48 4 false (q9 (acc++List.replicate i x))),(1,cL x)],2,0⟩) m ?_ ⟨_,_,aI2 (aA6 _ _),0,by omega,Nat.zero_le _,by simp,by simp⟩ ?_
 ·rw[hrn];unfold F4;omega
 rintro mm fr st ⟨i,rfl,hi,rfl,rfl⟩
 by_cases hlt:i<m
 ·have hsn:=FO (acc++List.replicate i x) x
  have hl:(acc++List.replicate i x).length=acc.length+i:=by simp
  have hd:=z6 (acc++List.replicate i x)
  have hrs:acc++List.replicate (i+1) x=acc++List.replicate i x++ [x]:=by rw[List.replicate_succ'];simp
  rw[hl] at hd ⊢
  generalize acc++List.replicate i x=A at*
  generalize q9 A=AD at*
  obtain ⟨xk,xp,xa,xb⟩:=x
  simp (disch:=first|omega|exact bd (by with_unfolding_all rfl)|(simp only[d9]<;>omega)) only[WA,Nat.reduceEqDiff,Nat.reduceLT,Nat.reduceAdd,↓reduceIte,reduceCtorEq,WC,O8]
  all_goals try (exfalso;omega)
  refine ⟨m - (i+1),_,_,by omega,w7 [(3,0),(1,1)] 2 h0 rfl rfl rfl rfl,i+1,rfl,by omega,?_,?_⟩
  ·rw[hrs,List.length_append,hl];rfl
  ·rw[hrs,hsn];rfl
 ·have:i=m:=by omega
  subst this
  generalize q9 (acc++List.replicate i x)=AD at*
  generalize (acc++List.replicate i x).length=al at*
  simp (disch:=first|omega|exact bd (by with_unfolding_all rfl)|fail) only[WA,Nat.reduceEqDiff,Nat.reduceLT,↓reduceIte,reduceCtorEq,WC]
  exact hgo
theorem IY (s:List UInt8):M5 s=if 2000<s.length then (([]:List p9),(12:Int)) else if s=L6 then (([]:List p9),(0:Int)) else match rK (u7 s) [] with
  |none=>(([]:List p9),(12:Int))
  |some L=>if K9 L=0∧A0 L=s then (L,(0:Int)) else (([]:List p9),(12:Int)):=by
 unfold M5 cT
 by_cases h1:2000<s.length
 ·simp only[if_pos h1]
 simp only[if_neg h1]
 by_cases h2:s=L6
 ·simp only[if_pos h2]
 simp only[if_neg h2]
 cases rK (u7 s) [] with
 |none=>rfl
 |some L=>
  by_cases h3:K9 L=0∧A0 L=s
  ·simp only[if_pos h3]
  ·simp only[if_neg h3]
theorem yA (s:List UInt8) (hs:s.length≤100000):n9 (EN w (n+9)) 12 [o8 s] (SU (M5 s)) ⟨[],0,0⟩:=by
 have hsz:=s8 s
 rw[IY]
 by_cases h1:2000<s.length
 ·rw[if_pos h1]
  refine A1 rfl rfl (fun _ _=>rfl) (Nat.le_of_ble_eq_true rfl) (i6 w) G0 rfl fun C hC h0=>?_
  simp (disch:=first|omega|exact bd (by with_unfolding_all rfl)|fail) only[WA,Nat.reduceEqDiff,Nat.reduceLT,↓reduceIte,reduceCtorEq,c12,hsz]
  all_goals try (exfalso;omega)
  exact K7 h0 rfl
 rw[if_neg h1]
 have hnt:((⟨s.toArray⟩:ByteArray)=⟨#[110,111,116,104,105,110,103]⟩)=(s=L6):=X0 s L6
 by_cases h2:s=L6
 ·rw[if_pos h2]
  refine A1 rfl rfl (fun _ _=>rfl) (Nat.le_of_ble_eq_true rfl) (i6 w) G0 rfl fun C hC h0=>?_
  rw[eq_true h2] at hnt
  have hl7:s.length≤2000:=by omega
  simp (disch:=first|omega|exact bd (by with_unfolding_all rfl)|(simp only[d9]<;>omega)) only[WA,Nat.reduceEqDiff,Nat.reduceLT,↓reduceIte,reduceCtorEq,c12,hsz,hnt]
  all_goals try (exfalso;omega)
  exact K7 h0 rfl
 rw[if_neg h2]
 have hsp:=aW9 w (n+2) s (by omega)
 have hsl:=fR s
 have hsm:=nK s
 have hsn:=rR s
 generalize u7 s=q at*
 refine A1 rfl rfl (fun _ _=>rfl) (Nat.le_of_ble_eq_true rfl) (i6 w) (by
  cases rK q [] with
  |none=>exact G0
  |some L=>simp only;split<;>exact G0) rfl fun C hC h0=>?_
 have hrn:C.E.rounds=F4:=by rw[hC,m7]
 simp (disch:=first|omega|exact bd (by with_unfolding_all rfl)|fail) only[WA,Nat.reduceEqDiff,Nat.reduceLT,↓reduceIte,reduceCtorEq,c12,hsz,hnt,h2]
 all_goals try (exfalso;omega)
 refine n4 (by rw[hC];exact hsp) rfl rfl (fun _=>rfl) ?_
 simp (disch:=first|exact bd (by with_unfolding_all rfl)|fail) only[WA,Nat.reduceEqDiff,Nat.reduceLT,↓reduceIte,reduceCtorEq]
 refine A6 (fun m fr st=>∃ (k:Nat) (acc:List p9),m=q.length - k∧k≤q.length∧acc.length≤200∧(∀ x ∈ acc,G4 x)∧rK q []=rK (q.drop k) acc∧fr= [(0,o8 s),(4,.gr 2 0 acc.length),(16,.sl 3 q.length (q.map sD)),(17,.sc (.int .i64 q.length)),(18,.sc (.int .i64 k))]∧st=⟨[(0,.gro 48 4 false (q9 acc))],1,0⟩) q.length ?_ ⟨_,_,P1 4 48 4 rfl,0,[],by omega,Nat.zero_le _,Nat.zero_le _,(fun x hx=>by cases hx),rfl,rfl,rfl⟩ ?_
 ·rw[hrn];unfold F4;omega
 rintro m fr st ⟨k,acc,rfl,hk,hal,hap,hraw,rfl,rfl⟩
 by_cases hlt:k<q.length
 ·have hqk:q.drop k=q[k]! ::q.drop (k+1):=by rw[List.drop_eq_getElem_cons hlt,getElem!_pos q k hlt]
  have hpl:=hsm q[k]! (by rw[getElem!_pos q k hlt];exact List.getElem_mem hlt)
  have hrd:=bT3 w n q[k]! (by omega)
  rw[hqk,rK] at hraw
  generalize hp:q[k]! =p at*
  cases hr:dU p with
  |none=>
   rw[hr] at hrd hraw
   rw[hraw]
   unfold aU9 at hrd
   simp (disch:=first|omega|exact bd (by with_unfolding_all rfl)|fail) only[WA,Nat.reduceEqDiff,Nat.reduceLT,↓reduceIte,reduceCtorEq,vD,hp]
   all_goals try (exfalso;omega)
   refine a6 (by rw[hC];exact hrd.flat rfl rfl) ?_
   simp (disch:=first|exact bd (by with_unfolding_all rfl)|(simp only[d9]<;>omega)) only[WA,Nat.reduceEqDiff,Nat.reduceLT,Nat.reduceAdd,↓reduceIte,reduceCtorEq,List.replicate]
   exact K7 h0 rfl
  |some xm=>
   obtain ⟨x,z⟩:=xm
   obtain ⟨hx,hz,hps⟩:=yK hr
   rw[hr] at hrd hraw
   simp only at hraw
   unfold aU9 at hrd
   obtain ⟨m,rfl⟩:=Int.eq_ofNat_of_zero_le (show 0≤z by omega)
   by_cases hgt:200<(acc.length:Int)+(m:Int)
   ·rw[if_pos hgt] at hraw
    rw[hraw]
    obtain ⟨xk,xp,xa,xb⟩:=x
    simp (disch:=first|omega|exact bd (by with_unfolding_all rfl)|fail) only[WA,Nat.reduceEqDiff,Nat.reduceLT,↓reduceIte,reduceCtorEq,vD,hp]
    all_goals try (exfalso;omega)
    refine a6 (by rw[hC];exact hrd.flat rfl rfl) ?_
    simp (disch:=first|omega|exact bd (by with_unfolding_all rfl)|(simp only[d9]<;>omega)) only[WA,Nat.reduceEqDiff,Nat.reduceLT,Nat.reduceAdd,↓reduceIte,reduceCtorEq,List.replicate]
    all_goals try (exfalso;omega)
    exact K7 h0 rfl
   ·rw[if_neg hgt,Int.toNat_natCast] at hraw
    have hin:=fun K P hg=>aS7 w n hC h0 s q q.length k acc x m (by omega) (K:=K) (P:=P) hg
    obtain ⟨xk,xp,xa,xb⟩:=x
    simp (disch:=first|omega|exact bd (by with_unfolding_all rfl)|fail) only[WA,Nat.reduceEqDiff,Nat.reduceLT,↓reduceIte,reduceCtorEq,vD,hp]
    all_goals try (exfalso;omega)
    refine a6 (by rw[hC];exact hrd.flat rfl rfl) ?_
    simp (disch:=first|omega|exact bd (by with_unfolding_all rfl)|(simp only[d9]<;>omega)) only[WA,Nat.reduceEqDiff,Nat.reduceLT,Nat.reduceAdd,↓reduceIte,reduceCtorEq,List.replicate]
    all_goals try (exfalso;omega)
    refine hin _ _ ?_
    generalize hA:acc++List.replicate m ⟨xk,xp,xa,xb⟩=A at*
    have hAl:A.length≤200:=by rw[← hA];simp;omega
    have hAp:∀ y ∈ A,G4 y:=fun y hy=>by
     rw[← hA] at hy
     rcases List.mem_append.1 hy with hy|hy
     ·exact hap y hy
     ·rw[List.eq_of_mem_replicate hy];exact hx
    simp (disch:=first|omega|exact bd (by with_unfolding_all rfl)|fail) only[WA,Nat.reduceEqDiff,Nat.reduceLT,↓reduceIte,reduceCtorEq]
    exact ⟨q.length - (k+1),_,_,by omega,w7 [(0,0)] 1 h0 rfl rfl rfl rfl,k+1,A,rfl,by omega,hAl,hAp,hraw,rfl,rfl⟩
 ·have:k=q.length:=by omega
  subst this
  rw[List.drop_length,rK] at hraw
  rw[hraw]
  simp only
  have hd:=z6 acc
  have ha:=JI w (n+2) 2 acc (by omega) fun y hy=>by have:=(hap y hy).bounds;omega
  have hwr:=fun hok=>ZZ w (n+4) 2 acc hal hok
  have hok0:=fun h:K9 acc=0=>(L0 h).2.1
  have h1:∀ st:m9,f7 st.own 0=some (.gro 48 4 false (q9 acc))→I2 st.own [.gr 2 0 acc.length]=some [.sl 2 acc.length (q9 acc)]:=fun st h=>kZ (V0 h hd)
  have hfin:y7 ([(0,.gro 48 4 false (q9 acc))]:E1) (.gr 2 0 acc.length)=some (.sl 2 acc.length (q9 acc)):=V0 rfl hd
  by_cases h3:K9 acc=0
  ·have hwr:=hwr (hok0 h3)
   rw[h3] at ha
   have hmj:((⟨(A0 acc).toArray⟩:ByteArray)=⟨s.toArray⟩)=(A0 acc=s):=X0 _ _
   by_cases h4:A0 acc=s
   ·rw[if_pos ⟨h3,h4⟩]
    rw[h4] at hwr
    simp (disch:=first|omega|exact bd (by with_unfolding_all rfl)|fail) only[WA,Nat.reduceEqDiff,Nat.reduceLT,↓reduceIte,reduceCtorEq,vD]
    all_goals try (exfalso;omega)
    refine a6 (by rw[hC];exact ha.flat rfl (h1 _ rfl)) ?_
    simp (disch:=first|exact bd (by with_unfolding_all rfl)|fail) only[WA,Nat.reduceEqDiff,Nat.reduceLT,↓reduceIte,reduceCtorEq]
    refine a6 (by rw[hC];exact hwr.flat rfl (h1 _ rfl)) ?_
    simp (disch:=first|exact bd (by with_unfolding_all rfl)|fail) only[WA,Nat.reduceEqDiff,Nat.reduceLT,↓reduceIte,reduceCtorEq]
    exact R7 (s:=2) (n:=acc.length) (l:=q9 acc) hfin rfl (.inl (by decide)) h0 rfl
   ·rw[if_neg fun h=>h4 h.2]
    rw[eq_false h4] at hmj
    generalize A0 acc=W at*
    simp (disch:=first|omega|exact bd (by with_unfolding_all rfl)|fail) only[WA,Nat.reduceEqDiff,Nat.reduceLT,↓reduceIte,reduceCtorEq,vD]
    all_goals try (exfalso;omega)
    refine a6 (by rw[hC];exact ha.flat rfl (h1 _ rfl)) ?_
    simp (disch:=first|exact bd (by with_unfolding_all rfl)|fail) only[WA,Nat.reduceEqDiff,Nat.reduceLT,↓reduceIte,reduceCtorEq]
    refine a6 (by rw[hC];exact hwr.flat rfl (h1 _ rfl)) ?_
    simp (disch:=first|exact bd (by with_unfolding_all rfl)|(simp only[d9]<;>omega)) only[WA,Nat.reduceEqDiff,Nat.reduceLT,↓reduceIte,reduceCtorEq,hmj]
    exact K7 h0 rfl
  ·rw[if_neg fun h=>h3 h.1]
   generalize K9 acc=e at*
   simp (disch:=first|omega|exact bd (by with_unfolding_all rfl)|fail) only[WA,Nat.reduceEqDiff,Nat.reduceLT,↓reduceIte,reduceCtorEq,vD]
   all_goals try (exfalso;omega)
   refine a6 (by rw[hC];exact ha.flat rfl (h1 _ rfl)) ?_
   simp (disch:=first|omega|exact bd (by with_unfolding_all rfl)|fail) only[WA,Nat.reduceEqDiff,Nat.reduceLT,↓reduceIte,reduceCtorEq]
   all_goals try (exfalso;omega)
   exact K7 h0 rfl
end
set_option maxHeartbeats 1000000
section
variable (w:World) (n:Nat)
theorem kE (s:Nat) (L:List p9) (hL:L.length≤140737488351232) (hK:KA L):n9 (EN w (n+7)) 10 [.sl s L.length (q9 L)] (.tup [o8 (p7 L).1,.sc (.int .i64 (p7 L).2)]) ⟨[],0,0⟩:=by
 have ha:=JI w n s L hL hK
 unfold p7
 by_cases h0:K9 L=0
 ·rw[h0] at ha
  rw[if_pos h0]
  have hok:=L0 h0
  have hw:=ZZ w (n+2) s L hok.1 hok.2.1
  generalize A0 L=W at*
  have hsz:=s8 W
  by_cases h2:2000<W.length
  ·rw[if_pos h2]
   refine d6 rfl rfl (fun _ _=>rfl) (Nat.le_of_ble_eq_true rfl) (i6 w) rfl fun C hC h0=>?_
   simp (disch:=first|exact bd (by with_unfolding_all rfl)|fail) only[WA,Nat.reduceEqDiff,Nat.reduceLT,↓reduceIte,reduceCtorEq,c10]
   refine a6 (by rw[hC];exact ha.flat rfl rfl) ?_
   simp (disch:=first|exact bd (by with_unfolding_all rfl)|fail) only[WA,Nat.reduceEqDiff,Nat.reduceLT,↓reduceIte,reduceCtorEq]
   refine a6 (by rw[hC];exact hw.flat rfl rfl) ?_
   simp (disch:=first|omega|exact bd (by with_unfolding_all rfl)|fail) only[WA,Nat.reduceEqDiff,Nat.reduceLT,↓reduceIte,hsz]
   all_goals try (exfalso;omega)
   exact b8 rfl h0 rfl
  ·rw[if_neg h2]
   refine d6 rfl rfl (fun _ _=>rfl) (Nat.le_of_ble_eq_true rfl) (i6 w) rfl fun C hC h0=>?_
   simp (disch:=first|exact bd (by with_unfolding_all rfl)|fail) only[WA,Nat.reduceEqDiff,Nat.reduceLT,↓reduceIte,reduceCtorEq,c10]
   refine a6 (by rw[hC];exact ha.flat rfl rfl) ?_
   simp (disch:=first|exact bd (by with_unfolding_all rfl)|fail) only[WA,Nat.reduceEqDiff,Nat.reduceLT,↓reduceIte,reduceCtorEq]
   refine a6 (by rw[hC];exact hw.flat rfl rfl) ?_
   simp (disch:=first|omega|exact bd (by with_unfolding_all rfl)|fail) only[WA,Nat.reduceEqDiff,Nat.reduceLT,↓reduceIte,hsz]
   all_goals try (exfalso;omega)
   exact b8 rfl h0 rfl
 ·rw[if_neg h0]
  generalize K9 L=e at*
  refine d6 rfl rfl (fun _ _=>rfl) (Nat.le_of_ble_eq_true rfl) (i6 w) rfl fun C hC h0=>?_
  simp (disch:=first|exact bd (by with_unfolding_all rfl)|fail) only[WA,Nat.reduceEqDiff,Nat.reduceLT,↓reduceIte,reduceCtorEq,c10]
  refine a6 (by rw[hC];exact ha.flat rfl rfl) ?_
  simp (disch:=first|omega|exact bd (by with_unfolding_all rfl)|fail) only[WA,Nat.reduceEqDiff,Nat.reduceLT,↓reduceIte,reduceCtorEq]
  all_goals try (exfalso;omega)
  exact b8 rfl h0 rfl
theorem aU7 (x:p9) (hk:x.kind<256):n9 (EN w (n+1)) 53 [nM x] (.sc (.int .i64 (if C7 x=true then 0 else 8))) ⟨[],0,0⟩:=by
 have go:∀ e:Int,(G4 x∧e=0)∨(¬ G4 x∧e=8)→n9 (EN w (n+1)) 53 [nM x] (.sc (.int .i64 e)) ⟨[],0,0⟩:=by
  obtain ⟨k,p,a,b⟩:=x
  unfold G4
  simp only at hk ⊢
  rcases (by omega:k=1∨k=2∨k=3∨k=4∨k=5∨k=6∨k=7∨k=8∨k=9∨k=10∨k=0∨10<k) with rfl|rfl|rfl|rfl|rfl|rfl|rfl|rfl|rfl|rfl|rfl|h10
  all_goals
   rintro e (⟨he,rfl⟩|⟨he,rfl⟩)
  all_goals
   cases p
  all_goals
   simp (config:={decide:=true}) only[reduceCtorEq,false_and,and_false,false_or,or_false,true_or,or_true,true_and,and_true,not_true_eq_false,not_false_eq_true] at he
  all_goals
   refine d6 rfl rfl (fun _ _=>rfl) (Nat.le_of_ble_eq_true rfl) (i6 w) rfl fun C hC h0=>?_
   repeat' (first|(simp (disch:=first|omega|exact bd (by with_unfolding_all rfl)|fail) only[WA,Nat.reduceEqDiff,Nat.reduceLT,↓reduceIte,reduceCtorEq,c53])|(apply l9<;>intro _))
  all_goals try (exfalso;omega)
  all_goals exact b8 rfl h0 rfl
 refine go _ ?_
 by_cases h:G4 x
 ·exact .inl ⟨h,by rw[if_pos (D8.2 h)]⟩
 ·exact .inr ⟨h,by rw[if_neg fun hh=>h (D8.1 hh)]⟩
theorem bG8 (x:p9) (hx:G4 x):n9 (EN w (n+1)) 75 [nM x] (.sc (.int .i64 (P6 x))) ⟨[],0,0⟩∧n9 (EN w (n+1)) 76 [nM x] (.sc (.int .i64 (P5 x))) ⟨[],0,0⟩:=by
 have hb:=hx.bounds
 obtain ⟨k,p,a,b⟩:=x
 simp only at hb
 clear hx
 constructor
 all_goals
  rcases (by omega:k=1∨k=2∨k=3∨k=4∨k=5∨k=6∨k=7∨k=8∨k=9∨k=10) with rfl|rfl|rfl|rfl|rfl|rfl|rfl|rfl|rfl|rfl
  all_goals
   refine d6 rfl rfl (fun _ _=>rfl) (Nat.le_of_ble_eq_true rfl) (i6 w) rfl fun C hC h0=>?_
   repeat' (first|(simp (disch:=first|omega|exact bd (by with_unfolding_all rfl)|fail) only[WA,Nat.reduceEqDiff,Nat.reduceLT,↓reduceIte,reduceCtorEq,c75,c76]))
   exact b8 rfl h0 rfl
theorem bG7 (s:Nat) (L:List p9) (hL:L.length≤200) (hok:L.all C7=true):n9 (EN w (n+2)) 54 [.sl s L.length (q9 L)] (.tup [.sc (.int .i64 (Q1 P6 L)),.sc (.int .i64 (Q1 P5 L))]) ⟨[],0,0⟩:=by
 refine d6 rfl rfl (fun _ _=>rfl) (Nat.le_of_ble_eq_true rfl) (i6 w) rfl fun C hC h0=>?_
 have hrn:C.E.rounds=F4:=by rw[hC,m7]
 have hil:=z6 L
 simp (disch:=first|exact bd (by with_unfolding_all rfl)|fail) only[WA,Nat.reduceEqDiff,Nat.reduceLT,↓reduceIte,reduceCtorEq,c54]
 all_goals try (exfalso;omega)
 refine A6 (fun m fr st=>∃ (k:Nat),m=L.length - k∧k≤L.length∧fr= [(0,.sl s L.length (q9 L)),(4,.sc (.int .i64 (Q1 P6 (L.take k)))),(5,.sc (.int .i64 (Q1 P5 (L.take k)))),(6,.sc (.int .i64 k))]∧st=⟨[],0,0⟩) L.length ?_ ⟨_,_,.refl _ _,0,by omega,Nat.zero_le _,rfl,rfl⟩ ?_
 ·rw[hrn];unfold F4;omega
 rintro m fr st ⟨k,rfl,hk,rfl,rfl⟩
 by_cases hlt:k<L.length
 case neg=>
  have:k=L.length:=by omega
  subst this
  rw[List.take_length]
  simp (disch:=first|omega|exact bd (by with_unfolding_all rfl)|fail) only[WA,Nat.reduceEqDiff,Nat.reduceLT,↓reduceIte,reduceCtorEq,aK4]
  all_goals try (exfalso;omega)
  exact b8 rfl h0 rfl
 have hag:=J1 L k hlt
 have u1:=lC (f:=P6) hlt
 have u2:=lC (f:=P5) hlt
 have htk:∀ x ∈ L.take k,G4 x:=fun x hx=>D8.1 (List.all_eq_true.1 hok x (List.mem_of_mem_take hx))
 have b1:=lD (f:=P6) fun x hx=>(Y1 (htk x hx)).1
 have b2:=lD (f:=P5) fun x hx=>(Y1 (htk x hx)).2
 have hl2:(L.take k).length≤200:=by rw[List.length_take];omega
 have hx:G4 L[k]! :=D8.1 (List.all_eq_true.1 hok _ (by rw[getElem!_pos _ k hlt];exact List.getElem_mem hlt))
 generalize L[k]! =X at*
 have c1:=Y1 hx
 obtain ⟨l1,l2⟩:=bG8 w n X hx
 generalize Q1 P6 (L.take k)=U at*
 generalize Q1 P5 (L.take k)=M at*
 generalize P6 X=uu at*
 generalize P5 X=mm at*
 obtain ⟨xk,xp,xa,xb⟩:=X
 simp (disch:=first|omega|exact bd (by with_unfolding_all rfl)|fail) only[WA,Nat.reduceEqDiff,Nat.reduceLT,↓reduceIte,reduceCtorEq,aK4,hag]
 all_goals try (exfalso;omega)
 refine a6 (by rw[hC];exact l1.flat rfl rfl) ?_
 simp (disch:=first|omega|exact bd (by with_unfolding_all rfl)|fail) only[WA,Nat.reduceEqDiff,Nat.reduceLT,↓reduceIte,reduceCtorEq,hag]
 refine a6 (by rw[hC];exact l2.flat rfl rfl) ?_
 simp (disch:=first|omega|exact bd (by with_unfolding_all rfl)|fail) only[WA,Nat.reduceEqDiff,Nat.reduceLT,↓reduceIte,reduceCtorEq]
 all_goals try (exfalso;omega)
 refine ⟨L.length - (k+1),_,_,by omega,.refl _ _,k+1,rfl,by omega,?_,rfl⟩
 rw[u1,u2]
 rfl
theorem bT1 (s:Nat) (L:List p9) (hL:L.length≤140737488351232) (hK:KA L):n9 (EN w (n+3)) 29 [.sl s L.length (q9 L)] (.sc (.int .i64 (K9 L))) ⟨[],0,0⟩:=by
 refine d6 rfl rfl (fun _ _=>rfl) (Nat.le_of_ble_eq_true rfl) (i6 w) rfl fun C hC h0=>?_
 have hrn:C.E.rounds=F4:=by rw[hC,m7]
 have hil:=z6 L
 unfold K9
 by_cases h2:200<L.length
 ·rw[if_pos h2]
  simp (disch:=first|omega|exact bd (by with_unfolding_all rfl)|fail) only[WA,Nat.reduceEqDiff,Nat.reduceLT,↓reduceIte,reduceCtorEq,c29]
  all_goals try (exfalso;omega)
  exact b8 rfl h0 rfl
 rw[if_neg h2]
 simp (disch:=first|omega|exact bd (by with_unfolding_all rfl)|fail) only[WA,Nat.reduceEqDiff,Nat.reduceLT,↓reduceIte,reduceCtorEq,c29]
 all_goals try (exfalso;omega)
 refine A6 (fun m fr st=>∃ (k:Nat),m=L.length - k∧k≤L.length∧(L.take k).all C7=true∧fr= [(0,.sl s L.length (q9 L)),(3,.sc (.int .i64 k))]∧st=⟨[],0,0⟩) L.length ?_ ⟨_,_,.refl _ _,0,by omega,Nat.zero_le _,rfl,rfl,rfl⟩ ?_
 ·rw[hrn];unfold F4;omega
 rintro m fr st ⟨k,rfl,hk,hall,rfl,rfl⟩
 by_cases hlt:k<L.length
 ·have hag:=J1 L k hlt
  have hc:=aU7 w (n+1) L[k]! (hK.at hlt)
  cases hx:C7 L[k]! with
  |true=>
   have hst:=FP hlt hall hx
   rw[hx,if_pos rfl] at hc
   generalize L[k]! =X at*
   obtain ⟨xk,xp,xa,xb⟩:=X
   simp (disch:=first|omega|exact bd (by with_unfolding_all rfl)|fail) only[WA,Nat.reduceEqDiff,Nat.reduceLT,↓reduceIte,reduceCtorEq,KX,hag]
   all_goals try (exfalso;omega)
   refine a6 (by rw[hC];exact hc.flat rfl rfl) ?_
   simp (disch:=first|omega|exact bd (by with_unfolding_all rfl)|fail) only[WA,Nat.reduceEqDiff,Nat.reduceLT,↓reduceIte,reduceCtorEq]
   exact ⟨L.length - (k+1),_,_,by omega,.refl _ _,k+1,rfl,by omega,hst,rfl,rfl⟩
  |false=>
   rw[if_neg (QK hlt hx)]
   rw[hx,if_neg (by decide)] at hc
   generalize L[k]! =X at*
   obtain ⟨xk,xp,xa,xb⟩:=X
   simp (disch:=first|omega|exact bd (by with_unfolding_all rfl)|fail) only[WA,Nat.reduceEqDiff,Nat.reduceLT,↓reduceIte,reduceCtorEq,KX,hag]
   all_goals try (exfalso;omega)
   refine a6 (by rw[hC];exact hc.flat rfl rfl) ?_
   simp (disch:=first|exact bd (by with_unfolding_all rfl)|(simp only[d9]<;>omega)) only[WA,Nat.reduceEqDiff,Nat.reduceLT,Int.reduceEq,↓reduceIte,reduceCtorEq]
   exact b8 rfl h0 rfl
 ·have:k=L.length:=by omega
  subst this
  rw[List.take_length] at hall
  rw[if_pos hall]
  have hs:=bG7 w n s L (by omega) hall
  generalize Q1 P6 L=U at*
  generalize Q1 P5 L=M at*
  by_cases hm:200<U∨200<M
  ·rw[if_pos hm]
   simp (disch:=first|omega|exact bd (by with_unfolding_all rfl)|fail) only[WA,Nat.reduceEqDiff,Nat.reduceLT,↓reduceIte,reduceCtorEq,KX]
   all_goals try (exfalso;omega)
   refine a6 (by rw[hC];exact hs.flat rfl rfl) ?_
   repeat' (first|(simp (disch:=first|omega|exact bd (by with_unfolding_all rfl)|fail) only[WA,Nat.reduceEqDiff,Nat.reduceLT,↓reduceIte,reduceCtorEq])|(apply l9<;>intro _))
   all_goals try (exfalso;omega)
   all_goals exact b8 rfl h0 rfl
  ·rw[if_neg hm]
   simp (disch:=first|omega|exact bd (by with_unfolding_all rfl)|fail) only[WA,Nat.reduceEqDiff,Nat.reduceLT,↓reduceIte,reduceCtorEq,KX]
   all_goals try (exfalso;omega)
   refine a6 (by rw[hC];exact hs.flat rfl rfl) ?_
   simp (disch:=first|omega|exact bd (by with_unfolding_all rfl)|fail) only[WA,Nat.reduceEqDiff,Nat.reduceLT,↓reduceIte,reduceCtorEq]
   all_goals try (exfalso;omega)
   all_goals exact b8 rfl h0 rfl
theorem uF (s t:Nat) (L M:List p9) (hL:L.length≤140737488351232) (hM:M.length≤140737488351232):n9 (EN w (n+1)) 14 [.sl s L.length (q9 L),.sl t M.length (q9 M)] (.sc (.bool (decide (L=M)))) ⟨[],0,0⟩:=by
 have hil:=z6 L
 have him:=z6 M
 by_cases hlen:L.length=M.length
 case neg=>
  rw[decide_eq_false fun h=>hlen (by rw[h])]
  refine d6 rfl rfl (fun _ _=>rfl) (Nat.le_of_ble_eq_true rfl) (i6 w) rfl fun C hC h0=>?_
  simp (disch:=first|omega|exact bd (by with_unfolding_all rfl)|fail) only[WA,Nat.reduceEqDiff,Nat.reduceLT,↓reduceIte,reduceCtorEq,c14]
  all_goals try (exfalso;omega)
  exact b8 rfl h0 rfl
 refine d6 rfl rfl (fun _ _=>rfl) (Nat.le_of_ble_eq_true rfl) (i6 w) rfl fun C hC h0=>?_
 have hrn:C.E.rounds=F4:=by rw[hC,m7]
 simp (disch:=first|omega|exact bd (by with_unfolding_all rfl)|fail) only[WA,Nat.reduceEqDiff,Nat.reduceLT,↓reduceIte,reduceCtorEq,c14]
 all_goals try (exfalso;omega)
 refine A6 (fun m fr st=>∃ (k:Nat),m=L.length - k∧k≤L.length∧(∀ j,j<k→L[j]! =M[j]!)∧fr= [(0,.sl s L.length (q9 L)),(1,.sl t M.length (q9 M)),(5,.sc (.int .i64 k))]∧st=⟨[],0,0⟩) L.length ?_ ⟨_,_,.refl _ _,0,by omega,Nat.zero_le _,fun j hj=>absurd hj (Nat.not_lt_zero _),rfl,rfl⟩ ?_
 ·rw[hrn];unfold F4;omega
 rintro m fr st ⟨k,rfl,hk,heq,rfl,rfl⟩
 by_cases hlt:k<L.length
 ·have hag:=J1 L k hlt
  have hag2:=J1 M k (by omega)
  by_cases hx:L[k]! =M[k]!
  ·have hnx:∀ j,j<k+1→L[j]! =M[j]! :=fun j hj=>by
    rcases Nat.lt_succ_iff_lt_or_eq.1 hj with h|h
    ·exact heq j h
    ·rw[h];exact hx
   rw[hx] at hag
   generalize M[k]! =X at*
   obtain ⟨xk,xp,xa,xb⟩:=X
   simp (disch:=first|omega|exact bd (by with_unfolding_all rfl)|(simp only[d9]<;>omega)) only[WA,i7,l7,Nat.reduceEqDiff,Nat.reduceLT,↓reduceIte,reduceCtorEq,WD,hag,hag2,↓S6]
   all_goals try (exfalso;omega)
   exact ⟨L.length - (k+1),_,_,by omega,.refl _ _,k+1,rfl,by omega,hnx,rfl,rfl⟩
  ·have hd:decide (L=M)=false:=decide_eq_false fun h=>hx (by rw[h])
   rw[hd]
   have hdd:=decide_eq_false hx
   generalize L[k]! =X at*
   generalize M[k]! =Y at*
   obtain ⟨xk,xp,xa,xb⟩:=X
   obtain ⟨yk,yp,ya,yb⟩:=Y
   simp (disch:=first|omega|exact bd (by with_unfolding_all rfl)|fail) only[WA,i7,l7,Nat.reduceEqDiff,Nat.reduceLT,↓reduceIte,reduceCtorEq,WD,hag,hag2,↓S6,hdd]
   all_goals try (exfalso;omega)
   exact b8 rfl h0 rfl
 ·have hd:decide (L=M)=true:=decide_eq_true (List.ext_getElem hlen fun j h1 h2=>by
   have:=heq j (by omega)
   rwa [getElem!_pos L j h1,getElem!_pos M j h2] at this)
  rw[hd]
  simp (disch:=first|omega|exact bd (by with_unfolding_all rfl)|fail) only[WA,Nat.reduceEqDiff,Nat.reduceLT,↓reduceIte,reduceCtorEq,WD]
  all_goals try (exfalso;omega)
  exact b8 rfl h0 rfl
def fD (l:Nat):Bool:=decide (60<l∧l≤200∨300<l)
theorem PO (s:Nat) (L:List p9) (hL:L.length≤140737488351232):n9 (EN w (n+1)) 9 [.sl s L.length (q9 L)] (.sc (.bool (fD L.length))) ⟨[],0,0⟩:=by
 unfold fD
 have go:∀ b:Bool,((60<L.length∧L.length≤200∨300<L.length)∧b=true)∨(¬ (60<L.length∧L.length≤200∨300<L.length)∧b=false)→n9 (EN w (n+1)) 9 [.sl s L.length (q9 L)] (.sc (.bool b)) ⟨[],0,0⟩:=by
  rintro b (⟨h,rfl⟩|⟨h,rfl⟩)
  all_goals
   refine d6 rfl rfl (fun _ _=>rfl) (Nat.le_of_ble_eq_true rfl) (i6 w) rfl fun C hC h0=>?_
   repeat' (first|(simp (disch:=first|omega|exact bd (by with_unfolding_all rfl)|fail) only[WA,Nat.reduceEqDiff,Nat.reduceLT,↓reduceIte,reduceCtorEq,c9])|(apply l9<;>intro _))
   all_goals try (exfalso;omega)
   all_goals exact b8 rfl h0 rfl
 by_cases h:60<L.length∧L.length≤200∨300<L.length
 ·exact go _ (.inl ⟨h,decide_eq_true h⟩)
 ·exact go _ (.inr ⟨h,decide_eq_false h⟩)
end
set_option maxHeartbeats 2000000
theorem LS (x:Nat):Lib.decDigits x=(if x / 10=0 then [] else Lib.decDigits (x / 10))++ [UInt8.ofNat (48+x % 10)]:=by
 by_cases h:x<10
 ·rw[Lib.decDigits,dif_pos h,if_pos (by omega),show x % 10=x by omega];rfl
 ·rw[Lib.decDigits,dif_neg h,if_neg (by omega)]
theorem bD5 {b:UInt8} (h:B6 b=true):Lib.digitVal b=some (b.toNat - 48):=by
 simp only[B6,Bool.and_eq_true,decide_eq_true_eq] at h
 unfold Lib.digitVal
 rw[if_pos h]
section
variable (w:World) (n:Nat)
theorem aB7 (x:Nat) (hx:x≤1000000000000):n9 (EN w (n+1)) 64 [.sc (.int .i64 x)] (o8 (Lib.decDigits x)) ⟨[],0,0⟩:=by
 refine d6 rfl rfl (fun _ _=>rfl) (Nat.le_of_ble_eq_true rfl) (i6 w) rfl fun C hC h0=>?_
 have hs1:∀ (c:UInt8) (s:List UInt8),s.length≤2000000000000→(ByteArray.mk [c].toArray).size+(ByteArray.mk s.toArray).size<9223372036854775807:=fun c s h=>by
  show 1+s.toArray.size<_
  simp;omega
 have e1:(x:Int) % 10=((x % 10:Nat):Int):=by omega
 have e2:(x:Int) / 10=((x / 10:Nat):Int):=by omega
 have e4:(48:Int)+((x % 10:Nat):Int)=((48+x % 10:Nat):Int):=by omega
 have e3:=GP (48+x % 10) (by omega)
 have e5:=VZ (o:=0) (t:=5) (g:=false) (z:=false) (H:= [(0,.row 5 1 false false [.sc (.int .u8 ((48+x % 10:Nat):Int))])]) (48+x % 10) (by omega) rfl 1
 simp (disch:=first|omega|exact bd (by with_unfolding_all rfl)|fail) only[WA,Nat.reduceEqDiff,Nat.reduceLT,↓reduceIte,reduceCtorEq,c64,e1,e2,e4,e3,e5]
 refine A6 (fun m fr st=>∃ (k:Nat) (s:List UInt8),m=k∧k≤x∧Lib.decDigits x=(if k=0 then [] else Lib.decDigits k)++s∧s.length+k≤x+1∧fr= [(0,.sc (.int .i64 k)),(3,o8 s)]∧st=⟨[],0,0⟩) (x / 10) ?_ ⟨_,_,w7 [] 0 h0 rfl rfl rfl rfl,x / 10,[UInt8.ofNat (48+x % 10)],?_⟩ ?_
 ·rw[hC,m7];unfold F4;omega
 ·exact ⟨rfl,by omega,LS x,by simp;omega,rfl,rfl⟩
 rintro k fr st ⟨_,s,rfl,hk,hd,hsl,rfl,rfl⟩
 by_cases hlt:0<k
 ·rw[if_neg (by omega),LS k] at hd
  have e1:(k:Int) % 10=((k % 10:Nat):Int):=by omega
  have e2:(k:Int) / 10=((k / 10:Nat):Int):=by omega
  have e4:(48:Int)+((k % 10:Nat):Int)=((48+k % 10:Nat):Int):=by omega
  have e3:=GP (48+k % 10) (by omega)
  have e5:=VZ (o:=0) (t:=5) (g:=false) (z:=false) (H:= [(0,.row 5 1 false false [.sc (.int .u8 ((48+k % 10:Nat):Int))])]) (48+k % 10) (by omega) rfl 1
  simp (disch:=first|omega|exact bd (by with_unfolding_all rfl)|fail) only[WA,Nat.reduceEqDiff,Nat.reduceLT,↓reduceIte,reduceCtorEq,aK5,e1,e2,e4,e3,e5,aJ8 _ _ (hs1 (UInt8.ofNat (48+k % 10)) s (by omega)),BW]
  all_goals try (exfalso;omega)
  refine ⟨_,_,_,?_,w7 [] 0 h0 rfl rfl rfl rfl,k / 10,UInt8.ofNat (48+k % 10)::s,rfl,by omega,?_,by simp;omega,?_,?_⟩
  ·omega
  ·rw[hd];simp
  ·simp[yL,aD]
  ·simp[BI]
 ·have:k=0:=by omega
  subst this
  rw[hd]
  simp (disch:=first|omega|exact bd (by with_unfolding_all rfl)|fail) only[WA,Nat.reduceEqDiff,Nat.reduceLT,↓reduceIte,reduceCtorEq,aK5]
  all_goals try (exfalso;omega)
  exact b8 rfl h0 rfl
def lT (r:Option Int):V:= .tup [.sc (.int .i64 (r.getD 0)),.sc (.bool r.isSome)]
theorem uC (l:List UInt8) (hl:l.length≤1000000):n9 (EN w (n+1)) 85 [o8 l] (lT (W0 l)) ⟨[],0,0⟩:=by
 refine d6 rfl rfl (fun _ _=>rfl) (Nat.le_of_ble_eq_true rfl) (i6 w) (by cases W0 l<;>rfl) fun C hC h0=>?_
 have hsz:=s8 l
 have no:¬ (l ≠ []∧l.length≤4∧(1<l.length→l[0]! ≠ 48)∧l.all B6=true)→W0 l=none:=fun h=>by unfold W0;rw[if_neg h]
 by_cases h1:l.length=0∨4<l.length
 ·rw[no (fun h=>by
   have:=List.length_pos_iff.2 h.1
   omega)]
  repeat' (first|(simp (disch:=first|omega|exact bd (by with_unfolding_all rfl)|fail) only[WA,Nat.reduceEqDiff,Nat.reduceLT,↓reduceIte,reduceCtorEq,c85,lT])|(apply l9<;>intro _))
  all_goals try (exfalso;omega)
  all_goals exact b8 rfl h0 rfl
 have hb0:=U3 l .i64 (0:Nat) (by omega) (by omega)
 have hx48:((l[0]!.toNat:Nat):Int)=48↔l[0]! =48:=by
  constructor
  ·intro h;apply UInt8.toNat_inj.1;rw[show (48:UInt8).toNat=48 by rfl];omega
  ·intro h;rw[h];rfl
 rw[Int.toNat_natCast] at hb0
 simp only[Int.natCast_zero] at hb0
 by_cases h2:1<l.length∧l[0]! =48
 ·rw[no (fun h=>h.2.2.1 h2.1 h2.2)]
  have h3:=hx48.2 h2.2
  generalize l[0]!.toNat=B at*
  simp (disch:=first|omega|exact bd (by with_unfolding_all rfl)|fail) only[WA,Nat.reduceEqDiff,Nat.reduceLT,↓reduceIte,reduceCtorEq,c85,lT,hb0]
  all_goals try (exfalso;omega)
  all_goals exact b8 rfl h0 rfl
 have h3:1<l.length→¬ ((l[0]!.toNat:Nat):Int)=48:=fun h hh=>h2 ⟨h,hx48.1 hh⟩
 have h3:¬ 1<l.length∨¬ ((l[0]!.toNat:Nat):Int)=48:=by
  by_cases h:1<l.length
  ·exact .inr (h3 h)
  ·exact .inl h
 have hR:l.all B6=true→W0 l=some (((Lib.decFrom 0 l).getD 0:Nat):Int):=fun h=>by
  unfold W0
  rw[if_pos ⟨List.length_pos_iff.1 (by omega),by omega,fun h5=>fun h6=>h2 ⟨h5,h6⟩,h⟩]
 generalize l[0]!.toNat=B at hb0 h3
 repeat' (first|(simp (disch:=first|omega|exact bd (by with_unfolding_all rfl)|fail) only[WA,Nat.reduceEqDiff,Nat.reduceLT,↓reduceIte,reduceCtorEq,c85,hb0])|(apply l9<;>intro _))
 all_goals try (exfalso;omega)
 all_goals
  refine A6 (fun m fr st=>∃ k u:Nat,m=l.length - k∧k≤l.length∧u<10 ^ k∧(∀ j,j<k→B6 l[j]! =true)∧Lib.decFrom 0 (l.take k)=some u∧fr= [(0,o8 l),(4,.sc (.int .i64 u)),(5,.sc (.int .i64 k))]∧st=⟨[],0,0⟩) l.length ?_ ⟨_,_,.refl _ _,0,0,?_⟩ ?_
  ·rw[hC,m7];unfold F4;omega
  ·exact ⟨by omega,by omega,by decide,(fun j hj=>absurd hj (Nat.not_lt_zero _)),rfl,rfl,rfl⟩
  rintro m fr st ⟨k,u,rfl,hk,hu,hd,hf,rfl,rfl⟩
  have hu9:u<10000:=Nat.lt_of_lt_of_le hu (by have:=Nat.pow_le_pow_right (show 1≤10 by omega) (show k≤4 by omega);simpa using this)
  by_cases hlt:k<l.length
  ·have hb:=U3 l .i64 k (by omega) (by omega)
   rw[Int.toNat_natCast] at hb
   by_cases hdg:B6 l[k]! =true
   ·have hdg1:=hdg
    have hv:=bD5 hdg
    have hstep:=Lib.decFrom_take l k 0 u l[k]! _ hf (by rw[List.getElem?_eq_getElem hlt,getElem!_pos l k hlt]) hv
    have hnx:=BD hd hdg
    simp only[B6,Bool.and_eq_true,decide_eq_true_eq] at hdg1
    generalize l[k]!.toNat=b at hb hstep hdg1
    have e1:IntKind.u8.wrap ((b:Int) - 48)=((b - 48:Nat):Int):=by rw[uM _ (by omega) (by omega)];omega
    repeat' (first|(simp (disch:=first|omega|exact bd (by with_unfolding_all rfl)|fail) only[WA,Nat.reduceEqDiff,Nat.reduceLT,↓reduceIte,reduceCtorEq,WG,hb,e1]))
    all_goals try (exfalso;omega)
    refine ⟨_,_,_,by omega,.refl _ _,k+1,u*10+(b - 48),rfl,hlt,?_,hnx,hstep,?_,rfl⟩
    ·rw[Nat.pow_succ];omega
    ·have:(10:Int)*u+((b - 48:Nat):Int)=((u*10+(b - 48):Nat):Int):=by omega
     rw[this];simp
   ·have e:W0 l=none:=no fun h=>hdg (List.all_eq_true.1 h.2.2.2 l[k]! (by rw[getElem!_pos l k hlt];exact List.getElem_mem hlt))
    rw[e]
    have hdg2:¬ (48≤l[k]!.toNat∧l[k]!.toNat≤57):=fun h=>hdg (by simp only[B6,Bool.and_eq_true,decide_eq_true_eq];exact h)
    generalize l[k]!.toNat=b at hb hdg2
    repeat' (first|(simp (disch:=first|omega|exact bd (by with_unfolding_all rfl)|fail) only[WA,Nat.reduceEqDiff,Nat.reduceLT,↓reduceIte,reduceCtorEq,WG,hb,lT])|(apply l9<;>intro _))
    all_goals try (exfalso;omega)
    all_goals exact b8 rfl h0 rfl
  ·have:k=l.length:=by omega
   subst this
   rw[List.take_length] at hf
   have hall:l.all B6=true:=List.all_eq_true.2 fun c hc=>by
    obtain ⟨i,hi,rfl⟩:=List.getElem_of_mem hc
    have:=hd i hi
    rw[getElem!_pos l i hi] at this
    exact this
   rw[hR hall,hf]
   repeat' (first|(simp (disch:=first|omega|exact bd (by with_unfolding_all rfl)|fail) only[WA,Nat.reduceEqDiff,Nat.reduceLT,↓reduceIte,reduceCtorEq,WG,lT,Option.getD]))
   exact b8 rfl h0 rfl
theorem bT2 (l:List UInt8) (c:UInt8) (hl:l.length≤1000000):n9 (EN w (n+1)) 84 [o8 l,.sc (.int .u8 c.toNat)] (.gr 2 0 (p5 c l).length) ⟨[(0,.gro 9 1 false ((p5 c l).map sD))],1,0⟩:=by
 refine A1 rfl rfl (fun _ _=>rfl) (Nat.le_of_ble_eq_true rfl) (i6 w) (PN (NZ rfl)) rfl fun C hC h0=>?_
 have hrn:C.E.rounds=F4:=by rw[hC,m7]
 have hsz:=s8 l
 simp (disch:=first|exact bd (by with_unfolding_all rfl)|fail) only[WA,Nat.reduceEqDiff,Nat.reduceLT,↓reduceIte,reduceCtorEq,c84]
 refine A6 (fun m fr st=>∃ (dn:List (List UInt8)) (p x r:List UInt8),m=r.length+1∧l=p++(x++r)∧c ∉ x∧p5 c l=dn++p5 c (x++r)∧fr= [(0,o8 l),(1,.sc (.int .u8 c.toNat)),(5,.gr 2 0 dn.length),(6,.sc (.int .i64 p.length)),(7,.sc (.int .i64 ((p.length+x.length:Nat):Int)))]∧st=⟨[(0,.gro 9 1 false (dn.map sD))],1,0⟩∨(m=0∧dn=p5 c l∧fr= [(0,o8 l),(1,.sc (.int .u8 c.toNat)),(5,.gr 2 0 dn.length),(6,.sc (.int .i64 ((l.length:Int)+1))),(7,.sc (.int .i64 ((l.length:Int)+1)))]∧st=⟨[(0,.gro 9 1 false (dn.map sD))],1,0⟩)) (l.length+1) ?_ ⟨_,_,P1 5 9 1 rfl,[],[],[],l,.inl ⟨rfl,rfl,by simp,rfl,rfl,rfl⟩⟩ ?_
 ·rw[hrn];unfold F4;omega
 rintro m fr st ⟨dn,p,x,r,⟨rfl,hlp,hx,hw,rfl,rfl⟩|⟨rfl,rfl,rfl,rfl⟩⟩
 case inr=>
  simp (disch:=first|omega|exact bd (by with_unfolding_all rfl)|fail) only[WA,Nat.reduceEqDiff,Nat.reduceLT,↓reduceIte,reduceCtorEq,LA]
  all_goals try (exfalso;omega)
  exact .refl _ _
 have hll:l.length=p.length+(x.length+r.length):=by rw[hlp];simp
 have hwl:=(words_len (c:=c) l.length (s:=l) (Nat.le_refl _)).1
 have hdl:dn.length≤l.length:=by
  have h1:=congrArg List.length hw
  have h2:=List.length_pos_iff.2 (eH c (x++r))
  rw[List.length_append] at h1
  omega
 have hdm:(dn.map sD).length=dn.length:=by rw[List.length_map]
 have e1:=aF6 l .i64 .i64 (p.length:Int) ((p.length+x.length:Nat):Int) (by omega) (by omega) (by omega)
 have e2:List.take (p.length+x.length - p.length) (List.drop p.length l)=x:=by
  rw[hlp,List.drop_left,Nat.add_sub_cancel_left,List.take_left]
 simp only[Int.toNat_natCast] at e1
 rw[e2] at e1
 cases r with
 |nil=>
  have hr0:([]:List UInt8).length=0:=rfl
  rw[List.append_nil,O2 hx] at hw
  have hpx:((p.length+x.length:Nat):Int)=(l.length:Int):=by omega
  have hxD:D.sc (Value.string ⟨x.toArray⟩)=sD x:=rfl
  simp (disch:=first|omega|exact bd (by with_unfolding_all rfl)|(simp only[d9]<;>omega)) only[WA,Nat.reduceEqDiff,Nat.reduceLT,Nat.reduceAdd,↓reduceIte,reduceCtorEq,LA,e1,aW0]
  all_goals try (exfalso;omega)
  rw[hpx]
  refine ⟨_,_,_,by omega,w7 [(2,0)] 1 h0 rfl rfl rfl rfl,dn++ [x],[],[],[],.inr ⟨rfl,hw.symm,?_,?_⟩⟩
  ·rw[List.length_append];rfl
  ·rw[List.map_append];rfl
 |cons b r=>
  have hr0:(b::r).length=r.length+1:=rfl
  have hb:=U3 l .i64 ((p.length+x.length:Nat):Int) (by omega) (by omega)
  have hg:l[p.length+x.length]! =b:=by
   rw[hlp,← List.append_assoc,getElem!_pos _ _ (by simp),List.getElem_append_right (by simp)]
   simp
  rw[Int.toNat_natCast,hg] at hb
  by_cases hbc:b=c
  ·subst hbc
   rw[G3 r hx] at hw
   simp (disch:=first|omega|exact bd (by with_unfolding_all rfl)|(simp only[d9]<;>omega)) only[WA,Nat.reduceEqDiff,Nat.reduceLT,Nat.reduceAdd,↓reduceIte,reduceCtorEq,LA,e1,hb,aW0]
   all_goals try (exfalso;omega)
   refine ⟨_,_,_,?_,w7 [(2,0)] 1 h0 rfl rfl rfl rfl,dn++ [x],p++(x++ [b]),[],r,.inl ⟨rfl,by rw[hlp];simp,by simp,by rw[hw];simp,?_,?_⟩⟩
   ·omega
   ·have hpx:(p++(x++ [b])).length=p.length+x.length+1:=by simp;omega
    rw[hpx,List.length_append];rfl
   ·rw[List.map_append];rfl
  ·have hne:¬ ((b.toNat:Nat):Int)=((c.toNat:Nat):Int):=fun h=>hbc (UInt8.toNat_inj.1 (by omega))
   simp (disch:=first|omega|exact bd (by with_unfolding_all rfl)|fail) only[WA,Nat.reduceEqDiff,Nat.reduceLT,↓reduceIte,reduceCtorEq,LA,e1,hb,hne,aW0]
   all_goals try (exfalso;omega)
   refine ⟨_,_,_,?_,.refl _ _,dn,p,x++ [b],r,.inl ⟨rfl,by rw[hlp];simp,?_,by rw[hw];simp,?_,rfl⟩⟩
   ·omega
   ·rw[List.mem_append,List.mem_singleton];rintro (h|h);exact hx h;exact hbc h.symm
   ·rw[List.length_append];rfl
theorem aL7 (l:List UInt8) (c:UInt8) (hl:l.length≤1000000):n9 (EN w (n+1)) 84 [o8 l,.sc (.int .u8 c.toNat)] (.sl 2 (p5 c l).length ((p5 c l).map sD)) ⟨[],0,0⟩:=by
 refine (bT2 w n l c hl).fin ?_ rfl rfl rfl (fun h=>by cases h)
 exact aW8 rfl (by simp)
end
set_option maxHeartbeats 400000
section
variable (w:World) (n:Nat)
theorem UR (z:Int) (h0:0≤z) (h1:z≤1000000):n9 (EN w (n+1)) 64 [.sc (.int .i64 z)] (o8 (Lib.itoa z)) ⟨[],0,0⟩:=by
 obtain ⟨u,rfl⟩:=Int.eq_ofNat_of_zero_le h0
 have:=aB7 w n u (by omega)
 rwa [← Lib.itoa_nonneg] at this
end
section
variable (w:World) (n:Nat)
end
end Go.Proofs.YtimmmnanllcfoaaDoor
namespace Go.Itp
set_option linter.unusedVariables false
set_option linter.unusedSimpArgs false
set_option maxRecDepth 10000
def JH:List UInt8:= [114,111,119,32]
def xZ:List UInt8:= [32,40]
def HV:List UInt8:= [41,58,32]
def lH (b:Bool) (n:Int) (c s:List UInt8):Option (Bool × List p9 × Int):=match y9 (W3 b++HV) c with
 |none=>none
 |some t=>if (M5 t).2=0∧F6 b (M5 t).1 n=(s,0) then some (b,(M5 t).1,n) else none
def BF (s:List UInt8):Option (Bool × List p9 × Int):=match C3 [JH,xZ] s with
 |none=>none
 |some (m,r)=>match J6 [46] r with
  |none=>none
  |some c=>match lH false (m.headD 0) c s with
   |some x=>some x
   |none=>lH true (m.headD 0) c s
theorem FV {b:Bool} {n:Int} {c s:List UInt8} {x:Bool × List p9 × Int} (h:lH b n c s=some x):gR s=some x:=by
 unfold lH at h
 split at h
 ·cases h
 ·split at h
  ·rename_i hh
   cases h
   exact yH hh.2
  ·cases h
theorem aE6 {s:List UInt8} {x:Bool × List p9 × Int} (h:BF s=some x):gR s=some x:=by
 unfold BF at h
 split at h
 ·cases h
 split at h
 ·cases h
 split at h
 ·rename_i he
  cases h
  exact FV he
 ·exact FV h
theorem ED {L:List p9} {t:List UInt8} (h:p7 L=(t,0)):M5 t=(L,0):=by
 unfold M5
 rw[nD h]
theorem bG3 {b:Bool} {L:List p9} {n:Int} {s:List UInt8} (h:F6 b L n=(s,0)):BF s=some (b,L,n):=by
 obtain ⟨hn,hc,hr,_⟩:=pO (by rw[h]:(F6 b L n).2=0)
 have hs:s=aM b n++A0 L++ [46]:=by rw[h] at hr;exact congrArg Prod.fst hr
 have e:s=JH++(Lib.itoa n++(xZ++((W3 b++HV++A0 L)++ [46]))):=by
  rw[hs];simp[aM,aF4,JH,lK,xZ,HV]
 have hnd:∀ r,R0 (xZ++r):=fun r c hc=>by
  simp only[xZ,List.cons_append,List.head?_cons,Option.some.injEq] at hc
  subst hc;decide
 have hm:C3 [JH,xZ] s=some ([n],(W3 b++HV++A0 L)++ [46]):=by
  rw[e]
  unfold C3
  simp only[H6]
  unfold S4
  rw[W7 (by omega) (by omega) (hnd _),if_neg oS,cB (by omega) (by omega) (hnd _),H6]
  simp only[S4,eD (show 0≤n by omega),List.nil_append]
 have ht:lH b n (W3 b++HV++A0 L) s=some (b,L,n):=by
  unfold lH
  rw[H6]
  simp only[ED hc,h,and_self,if_true]
 unfold BF
 rw[hm]
 simp only[vQ,List.headD_cons]
 cases b with
 |false=>rw[ht]
 |true=>
  have h0:lH false n (W3 true++HV++A0 L) s=none:=by
   unfold lH
   have:y9 (W3 false++HV) (W3 true++HV++A0 L)=none:=by
    unfold y9
    rw[if_neg]
    rintro ⟨_,h2⟩
    simp[W3,HV] at h2
   rw[this]
  rw[h0,ht]
theorem bG2 (s:List UInt8):BF s=gR s:=by
 cases h:gR s with
 |some x=>
  obtain ⟨b,L,n⟩:=x
  exact bG3 (yJ h)
 |none=>
  cases hp:BF s with
  |none=>rfl
  |some x=>rw[aE6 hp] at h;cases h
def pC:List UInt8:= [115,116,97,114,116,32,119,105,116,104,32]
def gQ:List UInt8:= [32,115,116,105,116,99,104,101,115,46]
noncomputable def lX:Int→List (List UInt8)→List (Bool × List p9)→Option (List (Bool × List p9))
 |_,[],acc=>some acc
 |n,x::xs,acc=>match gR x with
  |none=>none
  |some (b,L,k)=>if k=n then lX (n+1) xs (acc++ [(b,L)]) else none
noncomputable def lV (s:List UInt8):Option GQ:=if 60000<s.length then none else match C3 [pC,gQ] ((p5 10 s).headD []) with
 |none=>none
 |some (m,r)=>if r= []∧(p5 10 s).length≤102 then (match lX 1 (p5 10 s).tail.dropLast [] with
  |none=>none
  |some R=>if B5 (m.headD 0,R)=(s,0) then some (m.headD 0,R) else none) else none
theorem UM {s:List UInt8} {c:GQ} (h:lV s=some c):tK s=some c:=by
 unfold lV at h
 split at h
 ·cases h
 split at h
 ·cases h
 split at h
 ·split at h
  ·cases h
  ·split at h
   ·rename_i hc
    cases h
    exact PG hc
   ·cases h
 ·cases h
theorem tL:∀ (l:List (Bool × List p9)) (n:Int) (acc:List (Bool × List p9)),(B2 n l).2=0→lX n (W9 n l) acc=some (acc++l)
 | [],n,acc,_=>by rw[W9,lX,List.append_nil]
 |r::l,n,acc,h=>by
  unfold B2 at h
  by_cases h1:(F6 r.1 r.2 n).2=0
  ·rw[if_pos h1] at h
   by_cases h2:(B2 (n+1) l).2=0
   ·have h3:F6 r.1 r.2 n=((F6 r.1 r.2 n).1,0):=by rw[← h1]
    rw[W9,lX,yH h3]
    simp only[if_true]
    rw[tL l (n+1) _ h2,List.append_assoc]
    rfl
   ·rw[if_neg h2] at h;exact absurd h h2
  ·rw[if_neg h1] at h;exact absurd h h1
theorem aS9 {s:List UInt8} {c:GQ} (h:B5 c=(s,0)):lV s=some c:=by
 obtain ⟨h1,h2,h3,h4⟩:=kF (by rw[h]:(B5 c).2=0)
 obtain ⟨c1,c2,c3⟩:=dF h1
 have hw:=eV h
 have hlen:s.length≤60000:=by
  rw[h] at h4
  rw[show s=_ from congrArg Prod.fst h4]
  exact h3
 have hnd:R0 gQ:=fun d hd=>by
  simp only[gQ,List.head?_cons,Option.some.injEq] at hd
  subst hd;decide
 have hm:C3 [pC,gQ] (I5 c.1)=some ([c.1],[]):=by
  have e:I5 c.1=pC++(Lib.itoa c.1++(gQ++ [])):=by simp[I5,pC,gQ]
  rw[e]
  unfold C3
  simp only[H6]
  unfold S4
  rw[List.append_nil,W7 (by omega) (by omega) hnd,if_neg oS,cB (by omega) (by omega) hnd]
  have:=H6 gQ []
  rw[List.append_nil] at this
  rw[this]
  simp only[S4,eD c2.1,List.nil_append]
 unfold lV
 rw[if_neg (by omega),hw]
 simp only[List.headD_cons,hm,List.tail_cons,List.dropLast_concat]
 rw[if_pos ⟨trivial,by simp only[List.length_cons,List.length_append,List.length_nil,bW];omega⟩,tL _ _ _ h2]
 simp only[List.nil_append]
 exact if_pos h
theorem aS8 (s:List UInt8):lV s=tK s:=by
 cases h:tK s with
 |some c=>exact aS9 (US h)
 |none=>
  cases hp:lV s with
  |none=>rfl
  |some x=>rw[UM hp] at h;cases h
def zR:List (UInt8 × Nat):= [(102,3),(108,4),(109,5),(120,6),(121,7),(115,8),(111,10)]
def sY:List (UInt8 × Nat)→UInt8→Nat
 | [],_=>0
 |(a,k)::r,c=>if a=c then k else sY r c
def dP (c:UInt8):Nat:=sY zR c
theorem NR (c:UInt8):dP c≤10:=by
 unfold dP zR
 simp only[sY]
 repeat' split
 all_goals omega
def fP (p:Bool):List UInt8:=if p=true then [112] else [107]
def EB (x:p9):List UInt8:=match x.kind with
 |1=>fP x.purl
 |2=> [121,111]
 |3=>fP x.purl++102::Lib.itoa x.a
 |4=>fP x.purl++108::Lib.itoa x.a
 |5=>fP x.purl++109::Lib.itoa x.a
 |6=>fP x.purl++120::(Lib.itoa x.a++47::Lib.itoa x.b)
 |7=>fP x.purl++121::(Lib.itoa x.a++47::Lib.itoa x.b)
 |8=>fP x.purl++ [115]
 |9=>111::110::Lib.itoa x.a
 |_=>fP x.purl++111::Lib.itoa x.a
def W5 (x:p9) (l:List p9):Nat:=if x.kind=1 then (l.takeWhile fun y=>decide (y=x)).length else 0
theorem PV (x:p9) (l:List p9):W5 x l≤l.length:=by
 unfold W5
 split
 ·exact (List.takeWhile_sublist _).length_le
 ·exact Nat.zero_le _
def wrF:Nat→List p9→List UInt8
 |0,_=> []
 |_+1,[]=> []
 |f+1,x::l=>32::(EB x++((if 0<W5 x l then Lib.itoa (W5 x l+1:Nat) else [])++wrF f (l.drop (W5 x l))))
def eI (l:List p9):List UInt8:=(wrF l.length l).drop 1
def mE (w:List UInt8):List p9 × Bool:=
 if w= [121,111] then ([⟨2,false,0,0⟩],true)
 else if 2<w.length∧w.take 2= [111,110] then ([⟨9,false,(W0 (w.drop 2)).getD 0,0⟩],(W0 (w.drop 2)).isSome)
 else if w.length=0∨(w[0]! ≠ 107∧w[0]! ≠ 112) then ([],false)
 else if w.length=1 then ([⟨1,decide (w[0]! =112),0,0⟩],true)
 else match W0 (w.drop 1) with
  |some n=>(List.replicate (min n.toNat 300) ⟨1,decide (w[0]! =112),0,0⟩,decide (1<n))
  |none=>if dP w[1]! =8 then ([⟨8,decide (w[0]! =112),0,0⟩],decide (w.length=2))
   else if dP w[1]! =6∨dP w[1]! =7 then (if (p5 47 (w.drop 2)).length=2 then ([⟨dP w[1]!,decide (w[0]! =112),(W0 (p5 47 (w.drop 2))[0]!).getD 0,(W0 (p5 47 (w.drop 2))[1]!).getD 0⟩],(W0 (p5 47 (w.drop 2))[1]!).isSome && (W0 (p5 47 (w.drop 2))[0]!).isSome)
    else ([⟨dP w[1]!,decide (w[0]! =112),(W0 (p5 47 (w.drop 2))[0]!).getD 0,0⟩],false))
   else ([⟨dP w[1]!,decide (w[0]! =112),(W0 (p5 47 (w.drop 2))[0]!).getD 0,0⟩],decide (dP w[1]! ≠ 0∧(p5 47 (w.drop 2)).length=1) && (W0 (p5 47 (w.drop 2))[0]!).isSome)
theorem aI5 (w:List UInt8):(mE w).1.length≤300:=by
 unfold mE
 repeat' split
 all_goals simp only[List.length_cons,List.length_nil,List.length_replicate]
 all_goals omega
theorem VP (w:List UInt8):∀ x ∈ (mE w).1,x.kind<256:=by
 have hk:=NR w[1]!
 have h1:∀ (k:Nat) (p:Bool) (a b:Int),k≤10→∀ x ∈ ([⟨k,p,a,b⟩]:List p9),x.kind<256:=fun k p a b h x hx=>by
  rw[List.mem_singleton.1 hx]
  exact Nat.lt_of_le_of_lt h (by decide)
 unfold mE
 repeat' split
 all_goals first
  |exact h1 _ _ _ _ hk
  |exact h1 _ _ _ _ (by decide)
  |(intro x hx;cases hx;done)
  |(intro x hx;rw[List.eq_of_mem_replicate hx];exact Nat.lt_of_le_of_lt (Nat.le_refl 1) (by decide))
def nC:List (List UInt8)→List p9→Option (List p9)
 | [],acc=>some acc
 |w::ws,acc=>if (mE w).2=true then (if 200<(acc++(mE w).1).length then none else nC ws (acc++(mE w).1)) else none
def E6 (s:List UInt8):List p9 × Int:=if 3000<s.length then ([],12) else if s= [] then ([],0) else match nC (p5 32 s) [] with
 |none=>([],12)
 |some L=>if K9 L=0∧eI L=s then (L,0) else ([],12)
end Go.Itp
namespace Go.Proofs.YtimmmnanllcfoaaDoor
open Go Go.Itp
set_option maxRecDepth 100000
set_option maxHeartbeats 400000
set_option linter.unusedSimpArgs false
set_option linter.unusedVariables false
theorem bN5 (p:p9→Bool):∀ l:List p9,(∀ i,i<(l.takeWhile p).length→p l[i]! =true)∧((l.takeWhile p).length<l.length→p l[(l.takeWhile p).length]! =false)
 | []=>⟨fun i h=>by simp at h,fun h=>by simp at h⟩
 |x::l=>by
  obtain ⟨h1,h2⟩:=bN5 p l
  rw[List.takeWhile_cons]
  cases h:p x with
  |false=>exact ⟨fun i h=>by simp at h,fun _=>by simpa using h⟩
  |true=>
   simp only[if_true,List.length_cons]
   refine ⟨fun i hi=>?_,fun hi=>?_⟩
   ·cases i with
    |zero=>simpa using h
    |succ i=>simpa using h1 i (by omega)
   ·simpa using h2 (by omega)
theorem aE1 {x:p9} (hx:G4 x):(EB x).length≤11:=by
 have hb:=hx.bounds
 have l2:=F9 (z:=x.a) (by omega) (by omega)
 have l3:=F9 (z:=x.b) (by omega) (by omega)
 have ls:(fP x.purl).length=1:=by cases x.purl<;>rfl
 unfold EB
 split
 all_goals simp only[List.length_append,List.length_cons,List.length_nil,ls]
 all_goals omega
abbrev kdL:List UInt8:= [102,108,109,120,121,115,111]
abbrev kdK:List Nat:= [3,4,5,6,7,8,10]
abbrev kdD:List D:= [.sc (.int .u8 3),.sc (.int .u8 4),.sc (.int .u8 5),.sc (.int .u8 6),.sc (.int .u8 7),.sc (.int .u8 8),.sc (.int .u8 10)]
theorem bE3 (c:UInt8) (i:Nat) (hi:i<7):sY (zR.drop i) c=if kdL[i]! =c then kdK[i]! else sY (zR.drop (i+1)) c:=by
 rcases (by omega:i=0∨i=1∨i=2∨i=3∨i=4∨i=5∨i=6) with rfl|rfl|rfl|rfl|rfl|rfl|rfl<;>rfl
theorem cA8 (i:Nat) (hi:i<7):E7 kdD i none=some (.sc (.int .u8 (kdK[i]! :Nat))):=by
 rcases (by omega:i=0∨i=1∨i=2∨i=3∨i=4∨i=5∨i=6) with rfl|rfl|rfl|rfl|rfl|rfl|rfl<;>rfl
theorem bQ9 (nx:Nat):M4 nx 5 1 7 [.int .u8 0] [(0,1,.sc (.int .u8 3)),(1,1,.sc (.int .u8 4)),(2,1,.sc (.int .u8 5)),(3,1,.sc (.int .u8 6)),(4,1,.sc (.int .u8 7)),(5,1,.sc (.int .u8 8)),(6,1,.sc (.int .u8 10))]=some (.ref nx 0 7 7,some (.row 5 1 false false kdD),[]):=(rfl)
section
variable (w:World) (n:Nat)
theorem bR0 (c:UInt8):n9 (EN w (n+1)) 102 [.sc (.int .u8 c.toNat)] (.sc (.int .u8 (dP c))) ⟨[],0,0⟩:=by
 refine d6 rfl rfl (fun _ _=>rfl) (Nat.le_of_ble_eq_true rfl) (i6 w) rfl fun C hC h0=>?_
 have hrn:C.E.rounds=F4:=by rw[hC,m7]
 have hcc:∀ d:UInt8,((d.toNat:Nat):Int)=((c.toNat:Nat):Int)↔d=c:=fun d=>⟨fun h=>UInt8.toNat_inj.1 (by omega),fun h=>by rw[h]⟩
 have e0:dP c=sY (zR.drop 0) c:=rfl
 generalize dP c=kf at*
 simp (disch:=first|exact bd (by with_unfolding_all rfl)|fail) only[WA,Nat.reduceEqDiff,Nat.reduceLT,↓reduceIte,reduceCtorEq,bC9,bQ9]
 refine A6 (fun m fr st=>∃ i:Nat,m=7 - i∧i≤7∧kf=sY (zR.drop i) c∧fr= [(0,.sc (.int .u8 c.toNat)),(3,o8 kdL),(4,.ref 0 0 7 7),(5,.sc (.int .i64 i))]∧st=⟨[(0,.row 5 1 false false kdD)],1,0⟩) 7 ?_ ⟨_,_,.refl _ _,0,rfl,by omega,e0,rfl,rfl⟩ ?_
 ·rw[hrn];unfold F4;omega
 rintro m fr st ⟨i,rfl,hi,hinv,rfl,rfl⟩
 have hsz:=s8 kdL
 have hsz7:kdL.length=7:=rfl
 by_cases hlt:i<7
 ·have hb:=U3 kdL .i64 (i:Int) (by omega) (by omega)
  rw[Int.toNat_natCast] at hb
  have hld:=cA8 i hlt
  rw[bE3 c i hlt] at hinv
  have hd:=hcc kdL[i]!
  generalize kdL[i]! =d at*
  generalize kdK[i]! =q at*
  generalize hDD:kdD=DD at*
  have hDl:DD.length=7:=by rw[← hDD];rfl
  generalize kdL=LL at*
  by_cases h:d=c
  ·rw[if_pos h] at hinv
   subst hinv
   subst h
   simp (disch:=first|omega|exact bd (by with_unfolding_all rfl)|(simp only[d9]<;>omega)) only[WA,Nat.reduceEqDiff,Nat.reduceLT,↓reduceIte,reduceCtorEq,HG,hb,hsz,hsz7,hld]
   exact b8 rfl h0 rfl
  ·rw[if_neg h] at hinv
   have hd:¬ ((d.toNat:Nat):Int)=((c.toNat:Nat):Int):=fun e=>h (hd.1 e)
   generalize d.toNat=dn at*
   generalize c.toNat=cn at*
   simp (disch:=first|omega|exact bd (by with_unfolding_all rfl)|fail) only[WA,Nat.reduceEqDiff,Nat.reduceLT,↓reduceIte,reduceCtorEq,HG,hb,hsz,hsz7,hd]
   exact ⟨7 - (i+1),_,_,by omega,.refl _ _,i+1,rfl,by omega,hinv,rfl,rfl⟩
 ·obtain rfl:i=7:=by omega
  rw[show sY (zR.drop 7) c=0 from rfl] at hinv
  subst hinv
  generalize kdL=LL at*
  simp (disch:=first|omega|exact bd (by with_unfolding_all rfl)|fail) only[WA,Nat.reduceEqDiff,Nat.reduceLT,↓reduceIte,reduceCtorEq,HG,hsz,hsz7]
  exact b8 rfl h0 rfl
theorem bE8 (x:p9) (hx:G4 x):n9 (EN w (n+2)) 103 [nM x] (o8 (EB x)) ⟨[],0,0⟩:=by
 have hb:=hx.bounds
 have d1:=UR w n x.a (by omega) (by omega)
 have d2:=UR w n x.b (by omega) (by omega)
 have l2:=F9 (z:=x.a) (by omega) (by omega)
 have l3:=F9 (z:=x.b) (by omega) (by omega)
 obtain ⟨k,p,a,b⟩:=x
 simp only at hb d1 d2 l2 l3
 unfold EB
 simp only
 generalize Lib.itoa a=A at*
 generalize Lib.itoa b=B at*
 clear hx
 rcases (by omega:(k=1∨k=2∨k=8)∨(k=3∨k=4∨k=5∨k=9∨k=10)∨(k=6∨k=7)) with (rfl|rfl|rfl)|(rfl|rfl|rfl|rfl|rfl)|(rfl|rfl)
 iterate 3
  ·cases p
   all_goals
    refine d6 rfl rfl (fun _ _=>rfl) (Nat.le_of_ble_eq_true rfl) (i6 w) rfl fun C hC h0=>?_
    repeat' (first|(simp (disch:=first|omega|exact bd (by with_unfolding_all rfl)|(simp only[d9]<;>omega)) only[WA,Nat.reduceEqDiff,Nat.reduceLT,↓reduceIte,reduceCtorEq,aB1,K2,List.append_assoc]))
    exact b8 rfl h0 rfl
 iterate 5
  ·cases p
   all_goals
    refine d6 rfl rfl (fun _ _=>rfl) (Nat.le_of_ble_eq_true rfl) (i6 w) rfl fun C hC h0=>?_
    repeat' (first|(simp (disch:=first|omega|exact bd (by with_unfolding_all rfl)|(simp only[d9]<;>omega)) only[WA,Nat.reduceEqDiff,Nat.reduceLT,↓reduceIte,reduceCtorEq,aB1,K2,List.append_assoc]))
    refine a6 (by rw[hC];exact d1.flat rfl rfl) ?_
    repeat' (first|(simp (disch:=first|exact bd (by with_unfolding_all rfl)|(simp only[d9]<;>omega)) only[WA,Nat.reduceEqDiff,Nat.reduceLT,↓reduceIte,K2,List.append_assoc]))
    all_goals try (exfalso;omega)
    exact b8 rfl h0 rfl
 all_goals
  cases p
  all_goals
   refine d6 rfl rfl (fun _ _=>rfl) (Nat.le_of_ble_eq_true rfl) (i6 w) rfl fun C hC h0=>?_
   repeat' (first|(simp (disch:=first|omega|exact bd (by with_unfolding_all rfl)|(simp only[d9]<;>omega)) only[WA,i7,l7,Nat.reduceEqDiff,Nat.reduceLT,Nat.reduceAdd,↓reduceIte,reduceCtorEq,aB1,K2,List.append_assoc]))
   refine Q6 (by rw[hC];exact d1.flat rfl rfl) ?_
   repeat' (first|(simp (disch:=first|exact bd (by with_unfolding_all rfl)|(simp only[d9]<;>omega)) only[WA,i7,l7,Nat.reduceEqDiff,Nat.reduceLT,Nat.reduceAdd,↓reduceIte,K2,List.append_assoc]))
   all_goals try (exfalso;omega)
   refine Q6 (by rw[hC];exact d2.flat rfl rfl) ?_
   repeat' (first|(simp (disch:=first|exact bd (by with_unfolding_all rfl)|(simp only[d9]<;>omega)) only[WA,Nat.reduceEqDiff,Nat.reduceLT,↓reduceIte,K2,List.append_assoc]))
   all_goals try (exfalso;omega)
   exact b8 rfl h0 rfl
theorem aG3 (L:List p9) (k:Nat) (hk:k<L.length):E7 (q9 L) (k*4) none=some (.sc (.int .u8 L[k]!.kind)):=
 LX (fun a:p9=> [D.sc (.int .u8 a.kind),.sc (.bool a.purl),.sc (.int .i64 a.a),.sc (.int .i64 a.b)]) 4 L (fun _=>rfl) k 0 hk (by decide)
theorem bB0 {C:D0} (hC:C.E=EN w (n+2)) (s:Nat) (L:List p9) (hL:L.length≤200) (j:Nat) (hj:j<L.length) (q:V) (st:m9) {K:List KF} {P:B9}
  (hgo:gK C K (.exit 2) [(0,.sl s L.length (q9 L)),(3,q),(4,.sc (.int .i64 ((j+W5 L[j]! (L.drop (j+1)):Nat):Int))),(5,.sc (.int .i64 ((1+W5 L[j]! (L.drop (j+1)):Nat):Int))),(47,.sc (.bool false))] st P):
  gL C [0,3,4,5] BX K [(0,.sl s L.length (q9 L)),(3,q),(4,.sc (.int .i64 j)),(5,.sc (.int .i64 1))] st P:=by
 have hrn:C.E.rounds=F4:=by rw[hC,m7]
 have hil:=z6 L
 have hdl:(L.drop (j+1)).length=L.length - (j+1):=List.length_drop
 have htl:=PV L[j]! (L.drop (j+1))
 have hat:(∀ i,i<W5 L[j]! (L.drop (j+1))→(L.drop (j+1))[i]! =L[j]!)∧(L[j]!.kind=1→W5 L[j]! (L.drop (j+1))<(L.drop (j+1)).length→(L.drop (j+1))[W5 L[j]! (L.drop (j+1))]! ≠ L[j]!)∧(L[j]!.kind ≠ 1→W5 L[j]! (L.drop (j+1))=0):=by
  have h1:=bN5 (fun y=>decide (y=L[j]!)) (L.drop (j+1))
  unfold W5
  by_cases hk:L[j]!.kind=1
  ·rw[if_pos hk]
   exact ⟨fun i hi=>of_decide_eq_true (h1.1 i hi),fun _ hi=>of_decide_eq_false (h1.2 hi),fun h=>absurd hk h⟩
  ·rw[if_neg hk]
   exact ⟨fun i hi=>by omega,fun h=>absurd h hk,fun _=>rfl⟩
 generalize W5 L[j]! (L.drop (j+1))=t at*
 obtain ⟨ht,hn,hz⟩:=hat
 have hsame:∀ k,k≤t→L[j+k]! =L[j]! :=fun k hk=>by
  cases k with
  |zero=>rfl
  |succ k=>
   have:=ht k (by omega)
   rwa [vV (L:=L) (j:=j+1) (i:=k) (by omega),show j+1+k=j+(k+1) by omega] at this
 refine A6 (fun m fr st'=>∃ k:Nat,m=t - k∧k≤t∧fr= [(0,.sl s L.length (q9 L)),(3,q),(4,.sc (.int .i64 ((j+k:Nat):Int))),(5,.sc (.int .i64 ((1+k:Nat):Int)))]∧st'=st) t ?_ ⟨_,_,.refl _ _,0,by omega,Nat.zero_le _,rfl,rfl⟩ ?_
 ·rw[hrn];unfold F4;omega
 rintro m fr st' ⟨k,rfl,hk,rfl,rfl⟩
 have hagj:=J1 L (j+k) (by omega)
 rw[hsame k hk] at hagj
 have hkd:=aG3 L (j+k) (by omega)
 rw[hsame k hk] at hkd
 have hjk:((j+k:Nat):Int)+1=((j+k+1:Nat):Int):=by omega
 have hjk1:((1+k:Nat):Int)+1=((1+(k+1):Nat):Int):=by omega
 by_cases hk1:L[j]!.kind=1
 ·by_cases hlt:j+k+1<L.length
  ·have hag:=J1 L (j+k+1) hlt
   by_cases hkt:k<t
   ·rw[show j+k+1=j+(k+1) by omega,hsame (k+1) hkt] at hag
    rw[show j+(k+1)=j+k+1 by omega] at hag
    generalize L[j]! =X at*
    obtain ⟨xk,xp,xa,xb⟩:=X
    simp only at hk1
    subst hk1
    simp (disch:=first|omega|exact bd (by with_unfolding_all rfl)|(simp only[d9]<;>omega)) only[WA,i7,l7,Nat.reduceEqDiff,Nat.reduceLT,↓reduceIte,reduceCtorEq,BX,hjk,hkd,hag,hagj,↓S6]
    exact ⟨t - (k+1),_,_,by omega,.refl _ _,k+1,rfl,by omega,by rw[hjk1];rfl,rfl⟩
   ·have:k=t:=by omega
    subst this
    have he:=hn hk1 (by omega)
    rw[vV (L:=L) (j:=j+1) (i:=k) (by omega),show j+1+k=j+k+1 by omega] at he
    have hd:=decide_eq_false he
    clear hn ht hz hsame
    generalize L[j]! =X at*
    generalize L[j+k+1]! =Y at*
    obtain ⟨xk,xp,xa,xb⟩:=X
    obtain ⟨yk,yp,ya,yb⟩:=Y
    simp only at hk1
    subst hk1
    simp (disch:=first|omega|exact bd (by with_unfolding_all rfl)|fail) only[WA,i7,l7,Nat.reduceEqDiff,Nat.reduceLT,↓reduceIte,reduceCtorEq,BX,hjk,hkd,hag,hagj,↓S6,hd]
    exact hgo
  ·have:k=t:=by omega
   subst this
   clear hn ht hz hsame
   generalize L[j]! =X at*
   obtain ⟨xk,xp,xa,xb⟩:=X
   simp only at hk1
   subst hk1
   simp (disch:=first|omega|exact bd (by with_unfolding_all rfl)|fail) only[WA,i7,l7,Nat.reduceEqDiff,Nat.reduceLT,↓reduceIte,reduceCtorEq,BX,hjk,hkd,hagj]
   exact hgo
 ·obtain rfl:t=0:=hz hk1
  obtain rfl:k=0:=by omega
  clear hn ht hz hsame
  generalize L[j]! =X at*
  obtain ⟨xk,xp,xa,xb⟩:=X
  simp only at hk1
  have hk1:¬ ((xk:Nat):Int)=1:=by omega
  simp only[Nat.add_zero] at hkd hagj hgo hjk ⊢
  simp (disch:=first|omega|exact bd (by with_unfolding_all rfl)|fail) only[WA,i7,l7,Nat.reduceEqDiff,Nat.reduceLT,↓reduceIte,reduceCtorEq,BX,hjk,hkd,hagj,hk1]
  exact hgo
theorem aI8 (s:Nat) (L:List p9) (hL:L.length≤200) (hok:L.all C7=true):n9 (EN w (n+3)) 90 [.sl s L.length (q9 L)] (o8 (eI L)) ⟨[],0,0⟩:=by
 have hil:=z6 L
 have hP:∀ x ∈ L,G4 x:=fun x hx=>D8.1 (List.all_eq_true.1 hok x hx)
 unfold eI
 generalize hW:wrF L.length L=W
 refine d6 rfl rfl (fun _ _=>rfl) (Nat.le_of_ble_eq_true rfl) (i6 w) rfl fun C hC h0=>?_
 have hrn:C.E.rounds=F4:=by rw[hC,m7]
 simp (disch:=first|exact bd (by with_unfolding_all rfl)|fail) only[WA,Nat.reduceEqDiff,Nat.reduceLT,↓reduceIte,reduceCtorEq,c90]
 refine A6 (fun m fr st=>∃ (j f:Nat) (F:List UInt8),m=L.length - j∧j≤L.length∧W=F++wrF f (L.drop j)∧L.length - j≤f∧(j=0↔F= [])∧F.length≤20*j∧fr= [(0,.sl s L.length (q9 L)),(3,o8 (F.drop 1)),(4,.sc (.int .i64 j))]∧st=⟨[],0,0⟩) L.length ?_ ⟨_,_,.refl _ _,0,L.length,[],by omega,Nat.zero_le _,hW.symm,by omega,⟨fun _=>rfl,fun _=>rfl⟩,by simp,rfl,rfl⟩ ?_
 ·rw[hrn];unfold F4;omega
 rintro m fr st ⟨j,f,F,rfl,hj,hinv,hf,hjF,hFl,rfl,rfl⟩
 by_cases hlt:j<L.length
 ·obtain ⟨g,rfl⟩:∃ g,f=g+1:=⟨f - 1,by omega⟩
  have hXP:G4 L[j]! :=hP _ (by rw[getElem!_pos _ j hlt];exact List.getElem_mem hlt)
  have hone:=bE8 w n L[j]! hXP
  have hol:=aE1 hXP
  have hag:=J1 L j hlt
  have htl:=PV L[j]! (L.drop (j+1))
  rw[List.length_drop] at htl
  have hin:=fun q st K P=>bB0 w n hC s L hL j hlt q st (K:=K) (P:=P)
  rw[vW hlt,wrF,List.drop_drop] at hinv
  have hdec:=UR w (n+1) ((1+W5 L[j]! (L.drop (j+1)):Nat):Int) (by omega) (by omega)
  have hdl:=F9 (z:=((1+W5 L[j]! (L.drop (j+1)):Nat):Int)) (by omega) (by omega)
  rw[show ((W5 L[j]! (L.drop (j+1))+1:Nat):Int)=((1+W5 L[j]! (L.drop (j+1)):Nat):Int) by omega] at hinv
  generalize W5 L[j]! (L.drop (j+1))=t at*
  generalize EB L[j]! =O at*
  generalize Lib.itoa ((1+t:Nat):Int)=A at*
  generalize hX:L[j]! =X at*
  have hstep:W=(F++32::(O++if 0<t then A else []))++wrF g (L.drop (j+1+t)):=by rw[hinv];simp
  have hjt:((j+t:Nat):Int)+1=((j+1+t:Nat):Int):=by omega
  rcases F with _|⟨c,F0⟩
  ·obtain rfl:j=0:=hjF.2 rfl
   obtain ⟨xk,xp,xa,xb⟩:=X
   by_cases ht:0<t
   ·rw[if_pos ht] at hstep
    simp (disch:=first|omega|exact bd (by with_unfolding_all rfl)|fail) only[WA,Nat.reduceEqDiff,Nat.reduceLT,↓reduceIte,reduceCtorEq,BY,hag,List.drop_nil]
    all_goals try (exfalso;omega)
    refine a6 (by rw[hC];exact hone.flat rfl rfl) ?_
    simp (disch:=first|omega|exact bd (by with_unfolding_all rfl)|fail) only[WA,Nat.reduceEqDiff,Nat.reduceLT,↓reduceIte,reduceCtorEq,K2,List.nil_append]
    all_goals try (exfalso;omega)
    refine hin _ _ _ _ ?_
    simp (disch:=first|omega|exact bd (by with_unfolding_all rfl)|fail) only[WA,Nat.reduceEqDiff,Nat.reduceLT,↓reduceIte,reduceCtorEq]
    all_goals try (exfalso;omega)
    refine a6 (by rw[hC];exact hdec.flat rfl rfl) ?_
    simp (disch:=first|omega|exact bd (by with_unfolding_all rfl)|fail) only[WA,Nat.reduceEqDiff,Nat.reduceLT,↓reduceIte,reduceCtorEq,K2,hjt]
    all_goals try (exfalso;omega)
    exact ⟨L.length - (0+1+t),_,_,by omega,.refl _ _,0+1+t,g,[]++32::(O++A),rfl,by omega,hstep,by omega,⟨fun h=>by omega,fun h=>by cases h⟩,by simp;omega,by rw[show ((0+1+t:Nat):Int)=(t:Int)+1 by omega];rfl,rfl⟩
   ·rw[if_neg ht,List.append_nil] at hstep
    obtain rfl:t=0:=by omega
    simp (disch:=first|omega|exact bd (by with_unfolding_all rfl)|fail) only[WA,Nat.reduceEqDiff,Nat.reduceLT,↓reduceIte,reduceCtorEq,BY,hag,List.drop_nil]
    all_goals try (exfalso;omega)
    refine a6 (by rw[hC];exact hone.flat rfl rfl) ?_
    simp (disch:=first|omega|exact bd (by with_unfolding_all rfl)|fail) only[WA,Nat.reduceEqDiff,Nat.reduceLT,↓reduceIte,reduceCtorEq,K2,List.nil_append]
    all_goals try (exfalso;omega)
    refine hin _ _ _ _ ?_
    simp (disch:=first|omega|exact bd (by with_unfolding_all rfl)|fail) only[WA,Nat.reduceEqDiff,Nat.reduceLT,↓reduceIte,reduceCtorEq]
    all_goals try (exfalso;omega)
    exact ⟨L.length - (0+1+0),_,_,by omega,.refl _ _,0+1+0,g,[]++32::O,rfl,by omega,hstep,by omega,⟨fun h=>by omega,fun h=>by cases h⟩,by simp;omega,rfl,rfl⟩
  ·have hj0:j ≠ 0:=fun h=>by have:=hjF.1 h;cases this
   simp only[List.length_cons] at hFl
   obtain ⟨xk,xp,xa,xb⟩:=X
   by_cases ht:0<t
   ·rw[if_pos ht] at hstep
    simp (disch:=first|omega|exact bd (by with_unfolding_all rfl)|(simp only[d9]<;>omega)) only[WA,Nat.reduceEqDiff,Nat.reduceLT,↓reduceIte,reduceCtorEq,BY,hag,List.drop_succ_cons,List.drop_zero,K2]
    all_goals try (exfalso;omega)
    refine a6 (by rw[hC];exact hone.flat rfl rfl) ?_
    simp (disch:=first|exact bd (by with_unfolding_all rfl)|(simp only[d9]<;>omega)) only[WA,Nat.reduceEqDiff,Nat.reduceLT,↓reduceIte,reduceCtorEq,K2,List.append_assoc]
    all_goals try (exfalso;omega)
    refine hin _ _ _ _ ?_
    simp (disch:=first|omega|exact bd (by with_unfolding_all rfl)|fail) only[WA,Nat.reduceEqDiff,Nat.reduceLT,↓reduceIte,reduceCtorEq]
    all_goals try (exfalso;omega)
    refine a6 (by rw[hC];exact hdec.flat rfl rfl) ?_
    simp (disch:=first|omega|exact bd (by with_unfolding_all rfl)|(simp only[d9]<;>omega)) only[WA,Nat.reduceEqDiff,Nat.reduceLT,↓reduceIte,reduceCtorEq,K2,hjt,List.append_assoc]
    all_goals try (exfalso;omega)
    exact ⟨L.length - (j+1+t),_,_,by omega,.refl _ _,j+1+t,g,(c::F0)++32::(O++A),rfl,by omega,hstep,by omega,⟨fun h=>by omega,fun h=>by cases h⟩,by simp;omega,rfl,rfl⟩
   ·rw[if_neg ht,List.append_nil] at hstep
    obtain rfl:t=0:=by omega
    simp (disch:=first|omega|exact bd (by with_unfolding_all rfl)|(simp only[d9]<;>omega)) only[WA,Nat.reduceEqDiff,Nat.reduceLT,↓reduceIte,reduceCtorEq,BY,hag,List.drop_succ_cons,List.drop_zero,K2]
    all_goals try (exfalso;omega)
    refine a6 (by rw[hC];exact hone.flat rfl rfl) ?_
    simp (disch:=first|exact bd (by with_unfolding_all rfl)|(simp only[d9]<;>omega)) only[WA,Nat.reduceEqDiff,Nat.reduceLT,↓reduceIte,reduceCtorEq,K2,List.append_assoc]
    all_goals try (exfalso;omega)
    refine hin _ _ _ _ ?_
    simp (disch:=first|omega|exact bd (by with_unfolding_all rfl)|fail) only[WA,Nat.reduceEqDiff,Nat.reduceLT,↓reduceIte,reduceCtorEq]
    all_goals try (exfalso;omega)
    exact ⟨L.length - (j+1+0),_,_,by omega,.refl _ _,j+1+0,g,(c::F0)++32::O,rfl,by omega,hstep,by omega,⟨fun h=>by omega,fun h=>by cases h⟩,by simp;omega,rfl,rfl⟩
 ·have:j=L.length:=by omega
  subst this
  rw[List.drop_length] at hinv
  have hw0:wrF f []= []:=by cases f<;>rfl
  rw[hw0,List.append_nil] at hinv
  subst hinv
  simp (disch:=first|omega|exact bd (by with_unfolding_all rfl)|fail) only[WA,Nat.reduceEqDiff,Nat.reduceLT,↓reduceIte,reduceCtorEq,BY]
  all_goals try (exfalso;omega)
  exact b8 rfl h0 rfl
end
set_option maxHeartbeats 8000000
abbrev bO2 (r:List p9 × Bool):V:= .tup [.sl 3 r.1.length (q9 r.1),.sc (.bool r.2)]
theorem X8 (H:E1) (o t:Nat) (g:Bool) (a b c d:D) (h:f7 H o=some (.row t 4 g false [a,b,c,d])):y7 H (.ref o 0 1 1)=some (.sl 0 1 [a,b,c,d]):=by
 simp only[y7,cW,h]
 rfl
section
variable (w:World) (n:Nat)
theorem aI6 {C:D0} (hC:C.E=EN w (n+1)) (h0:C.w0.nx=0) (x:p9) (u:Nat) {K:List KF} {P:B9}
  (hgo:gK C K (.exit 0) [(6,.ptr 0 0),(7,.sc (.int .i64 u)),(9,.gr 2 1 (min u 300)),(10,.sc (.int .i64 (min u 300:Nat))),(72,.sc (.bool false))] ⟨[(1,.gro 48 4 false (q9 (List.replicate (min u 300) x))),(0,cL x)],2,0⟩ P):
  gL C [6,7,9,10] LB K [(6,.ptr 0 0),(7,.sc (.int .i64 u)),(9,.sc (.slice none 0 0)),(10,.sc (.int .i64 0))] ⟨[(0,cL x)],1,0⟩ P:=by
 have hrn:C.E.rounds=F4:=by rw[hC,m7]
 generalize hM:min u 300=M at*
 refine A6 (fun m fr st=>∃ j:Nat,m=M - j∧j≤M∧fr= [(6,.ptr 0 0),(7,.sc (.int .i64 u)),(9,.gr 2 1 j),(10,.sc (.int .i64 j))]∧st=⟨[(1,.gro 48 4 false (q9 (List.replicate j x))),(0,cL x)],2,0⟩) M ?_ ⟨_,_,P1 9 48 4 rfl,0,by omega,Nat.zero_le _,rfl,rfl⟩ ?_
 ·rw[hrn];unfold F4;omega
 rintro m fr st ⟨j,rfl,hj,rfl,rfl⟩
 by_cases hlt:j<M
 ·have hsn:=FO (List.replicate j x) x
  have hd:=z6 (List.replicate j x)
  rw[List.length_replicate] at hd
  have hrs:List.replicate (j+1) x=List.replicate j x++ [x]:=List.replicate_succ'
  generalize q9 (List.replicate j x)=AD at*
  have hju:j<u:=by omega
  have hj3:j<300:=by omega
  obtain ⟨xk,xp,xa,xb⟩:=x
  simp (disch:=first|omega|exact bd (by with_unfolding_all rfl)|(simp only[d9]<;>omega)) only[WA,Nat.reduceEqDiff,Nat.reduceLT,Nat.reduceAdd,↓reduceIte,reduceCtorEq,LB,O8]
  all_goals try (exfalso;omega)
  refine ⟨M - (j+1),_,_,by omega,w7 [(3,1),(0,0)] 2 h0 rfl rfl rfl rfl,j+1,rfl,by omega,rfl,?_⟩
  rw[hrs,hsn];rfl
 ·have:j=M:=by omega
  subst this
  generalize q9 (List.replicate j x)=AD at*
  rcases (by omega:¬ j<u∨(j<u∧¬ j<300)) with h|⟨h,h'⟩
  ·simp (disch:=first|omega|exact bd (by with_unfolding_all rfl)|fail) only[WA,Nat.reduceEqDiff,Nat.reduceLT,↓reduceIte,LB]
   all_goals try (exfalso;omega)
   exact hgo
  ·simp (disch:=first|omega|exact bd (by with_unfolding_all rfl)|fail) only[WA,Nat.reduceEqDiff,Nat.reduceLT,↓reduceIte,LB]
   all_goals try (exfalso;omega)
   exact hgo
theorem bW1 (l:List UInt8) (hl:l.length≤100000):n9 (EN w (n+2)) 89 [o8 l] (bO2 (mE l)) ⟨[],0,0⟩:=by
 have hsz:=s8 l
 have heq:∀ m:List UInt8,((⟨l.toArray⟩:ByteArray)=⟨m.toArray⟩)=(l=m):=X0 l
 unfold mE
 by_cases h1:l= [121,111]
 ·rw[if_pos h1]
  subst h1
  refine A1 rfl rfl (fun _ _=>rfl) (Nat.le_of_ble_eq_true rfl) (i6 w) G0 rfl fun C hC h0=>?_
  simp (disch:=first|exact bd (by with_unfolding_all rfl)|(simp only[d9]<;>omega)) only[WA,Nat.reduceEqDiff,Nat.reduceLT,↓reduceIte,reduceCtorEq,c89,O8]
  exact R7 (s:=0) (n:=1) (X8 _ _ _ _ _ _ _ _ rfl) rfl (.inl (by decide)) h0 rfl
 rw[if_neg h1]
 have h1e:((⟨l.toArray⟩:ByteArray)=⟨#[121,111]⟩)=False:=(heq [121,111]).trans (eq_false h1)
 have hs2:2≤l.length→gU none (some (.int .i64 2)) (o8 l)=some (o8 (l.take 2)):=fun h=>pS l .i64 2 (by omega) (by omega)
 by_cases h2:2<l.length∧l.take 2= [111,110]
 ·rw[if_pos h2]
  have hs3:gU (some (.int .i64 2)) none (o8 l)=some (o8 (l.drop 2)):=aW l .i64 2 (by omega) (by omega)
  have hnu:=uC w n (l.drop 2) (by rw[List.length_drop];omega)
  have hs2:=hs2 (by omega)
  rw[h2.2] at hs2
  have h2l:=h2.1
  unfold lT at hnu
  generalize W0 (l.drop 2)=N at*
  generalize l.drop 2=T at*
  refine A1 rfl rfl (fun _ _=>rfl) (Nat.le_of_ble_eq_true rfl) (i6 w) G0 rfl fun C hC h0=>?_
  simp (disch:=first|omega|exact bd (by with_unfolding_all rfl)|(simp only[d9]<;>omega)) only[WA,Nat.reduceEqDiff,Nat.reduceLT,↓reduceIte,reduceCtorEq,c89,h1e,hsz,hs2,hs3]
  all_goals try (exfalso;omega)
  refine a6 (by rw[hC];exact hnu.flat rfl rfl) ?_
  simp (disch:=first|exact bd (by with_unfolding_all rfl)|(simp only[d9]<;>omega)) only[WA,Nat.reduceEqDiff,Nat.reduceLT,↓reduceIte,reduceCtorEq,O8]
  exact R7 (s:=0) (n:=1) (X8 _ _ _ _ _ _ _ _ rfl) rfl (.inl (by decide)) h0 rfl
 rw[if_neg h2]
 have h2e:2<l.length→((⟨(l.take 2).toArray⟩:ByteArray)=⟨#[111,110]⟩)=False:=fun h=>(X0 (l.take 2) [111,110]).trans (eq_false fun e=>h2 ⟨h,e⟩)
 clear h2 heq
 by_cases h3:l.length=0∨(l[0]! ≠ 107∧l[0]! ≠ 112)
 ·rw[if_pos h3]
  rcases h3 with h3|⟨h3,h4⟩
  ·refine A1 rfl rfl (fun _ _=>rfl) (Nat.le_of_ble_eq_true rfl) (i6 w) G0 rfl fun C hC h0=>?_
   simp (disch:=first|omega|exact bd (by with_unfolding_all rfl)|fail) only[WA,Nat.reduceEqDiff,Nat.reduceLT,↓reduceIte,reduceCtorEq,c89,h1e,hsz]
   all_goals try (exfalso;omega)
   exact K7 h0 rfl
  ·have a3:¬ ((l[0]!.toNat:Nat):Int)=107:=fun h=>h3 (UInt8.toNat_inj.1 (show l[0]!.toNat=107 by omega))
   have a4:¬ ((l[0]!.toNat:Nat):Int)=112:=fun h=>h4 (UInt8.toNat_inj.1 (show l[0]!.toNat=112 by omega))
   have hb0:0<l.length→fG (o8 l) (.sc (.int .i64 0))=some (.sc (.int .u8 (l[0]!.toNat:Nat))):=fun h=>U3 l .i64 0 (by omega) (by omega)
   generalize l[0]!.toNat=B at*
   refine A1 rfl rfl (fun _ _=>rfl) (Nat.le_of_ble_eq_true rfl) (i6 w) G0 rfl fun C hC h0=>?_
   repeat' (first|(simp (disch:=first|omega|exact bd (by with_unfolding_all rfl)|(simp only[d9]<;>omega)) only[WA,Nat.reduceEqDiff,Nat.reduceLT,↓reduceIte,reduceCtorEq,c89,h1e,hsz,hs2,h2e,hb0,a3,a4])|(apply l9<;>intro _))
   all_goals try (exfalso;omega)
   all_goals exact K7 h0 rfl
 rw[if_neg h3]
 have hl0:0<l.length:=by omega
 have hc:l[0]! =107∨l[0]! =112:=by
  by_cases e:l[0]! =107
  ·exact .inl e
  ·exact .inr (by
    by_cases e2:l[0]! =112
    ·exact e2
    ·exact absurd (.inr ⟨e,e2⟩) h3)
 clear h3
 have hb0:fG (o8 l) (.sc (.int .i64 0))=some (.sc (.int .u8 (l[0]!.toNat:Nat))):=U3 l .i64 0 (by omega) (by omega)
 obtain ⟨p,hp,hpn⟩:∃ p:Bool,decide (l[0]! =112)=p∧((l[0]!.toNat:Nat):Int)=if p=true then 112 else 107:=by
  rcases hc with e|e
  ·exact ⟨false,by rw[e];rfl,by rw[e];rfl⟩
  ·exact ⟨true,by rw[e];rfl,by rw[e];rfl⟩
 rw[hp]
 rw[hpn] at hb0
 clear hc hpn hp
 by_cases h4:l.length=1
 ·rw[if_pos h4]
  cases p
  all_goals
   simp only[reduceIte,Bool.false_eq_true] at hb0
   refine A1 rfl rfl (fun _ _=>rfl) (Nat.le_of_ble_eq_true rfl) (i6 w) G0 rfl fun C hC h0=>?_
   repeat' (first|(simp (disch:=first|omega|exact bd (by with_unfolding_all rfl)|(simp only[d9]<;>omega)) only[WA,Nat.reduceEqDiff,Nat.reduceLT,Nat.reduceAdd,Int.reduceEq,↓reduceIte,reduceCtorEq,List.replicate,c89,h1e,hsz,hs2,h2e,hb0,O8]))
   all_goals try (exfalso;omega)
   all_goals exact R7 (s:=0) (n:=1) (X8 _ _ _ _ _ _ _ _ rfl) rfl (.inl (by decide)) h0 rfl
 rw[if_neg h4]
 have hs1:gU (some (.int .i64 1)) none (o8 l)=some (o8 (l.drop 1)):=aW l .i64 1 (by omega) (by omega)
 have hnu:=uC w n (l.drop 1) (by rw[List.length_drop];omega)
 have hb1:fG (o8 l) (.sc (.int .i64 1))=some (.sc (.int .u8 (l[1]!.toNat:Nat))):=U3 l .i64 1 (by omega) (by omega)
 have hki:=bR0 w n l[1]!
 cases hN:W0 (l.drop 1) with
 |some z=>
  rw[hN] at hnu
  unfold lT at hnu
  simp only[Option.getD_some,Option.isSome_some] at hnu
  obtain ⟨u,rfl⟩:∃ u:Nat,z=u:=by
   unfold W0 at hN
   split at hN
   ·exact ⟨_,(Option.some.inj hN).symm⟩
   ·cases hN
  simp only[Int.toNat_natCast]
  clear hki hb1 hN
  generalize l.drop 1=T at*
  have hd:∀ q:Bool,(q9 (List.replicate (min u 300) (⟨1,q,0,0⟩:p9))).length=min u 300*4:=fun q=>by rw[z6,List.length_replicate]
  show n9 _ _ _ (.tup [.sl 3 (List.replicate (min u 300) (⟨1,p,0,0⟩:p9)).length _,_]) _
  rw[List.length_replicate]
  cases p
  all_goals
   simp only[reduceIte,Bool.false_eq_true] at hb0
   refine A1 rfl rfl (fun _ _=>rfl) (Nat.le_of_ble_eq_true rfl) (i6 w) G0 rfl fun C hC h0=>?_
   have hrn:C.E.rounds=F4:=by rw[hC,m7]
   repeat' (first|(simp (disch:=first|omega|exact bd (by with_unfolding_all rfl)|(simp only[d9]<;>omega)) only[WA,Nat.reduceEqDiff,Nat.reduceLT,Int.reduceEq,↓reduceIte,reduceCtorEq,List.replicate,c89,h1e,hsz,hs2,h2e,hb0,hs1])|(apply l9<;>intro _))
   all_goals try (exfalso;omega)
   all_goals refine a6 (by rw[hC];exact hnu.flat rfl rfl) ?_
   all_goals repeat' (first|(simp (disch:=first|exact bd (by with_unfolding_all rfl)|fail) only[WA,Nat.reduceEqDiff,Nat.reduceLT,↓reduceIte,reduceCtorEq]))
   all_goals refine aI6 w n hC h0 ⟨1,_,0,0⟩ u ?_
   all_goals generalize min u 300=M at*
   all_goals repeat' (first|(simp (disch:=first|exact bd (by with_unfolding_all rfl)|fail) only[WA,Nat.reduceEqDiff,Nat.reduceLT,↓reduceIte]))
   all_goals first|exact R7 (s:=2) (V0 rfl (hd false)) rfl (.inl (by decide)) h0 rfl|exact R7 (s:=2) (V0 rfl (hd true)) rfl (.inl (by decide)) h0 rfl
 |none=>
  rw[hN] at hnu
  unfold lT at hnu
  simp only[Option.getD_none,Option.isSome_none] at hnu
  simp only
  have hkl:=NR l[1]!
  generalize dP l[1]! =k at*
  generalize l[1]!.toNat=B1 at*
  clear hN
  generalize l.drop 1=T1 at*
  by_cases h8:k=8
  ·rw[if_pos h8]
   subst h8
   by_cases hl2:l.length=2
   all_goals
    simp only[hl2,decide_true,decide_false]
    cases p
    all_goals
     simp only[reduceIte,Bool.false_eq_true] at hb0
     refine A1 rfl rfl (fun _ _=>rfl) (Nat.le_of_ble_eq_true rfl) (i6 w) G0 rfl fun C hC h0=>?_
     repeat' (first|(simp (disch:=first|omega|exact bd (by with_unfolding_all rfl)|(simp only[d9]<;>omega)) only[WA,Nat.reduceEqDiff,Nat.reduceLT,Int.reduceEq,↓reduceIte,reduceCtorEq,List.replicate,c89,h1e,hsz,hs2,h2e,hb0,hs1]))
     all_goals try (exfalso;omega)
     all_goals refine a6 (by rw[hC];exact hnu.flat rfl rfl) ?_
     all_goals repeat' (first|(simp (disch:=first|exact bd (by with_unfolding_all rfl)|fail) only[WA,Nat.reduceEqDiff,Nat.reduceLT,↓reduceIte,reduceCtorEq,hb1]))
     all_goals refine a6 (by rw[hC];exact hki.flat rfl rfl) ?_
     all_goals repeat' (first|(simp (disch:=first|omega|exact bd (by with_unfolding_all rfl)|(simp only[d9]<;>omega)) only[WA,Nat.reduceEqDiff,Nat.reduceLT,Nat.reduceAdd,↓reduceIte,reduceCtorEq,O8,hsz]))
     all_goals try (exfalso;omega)
     all_goals exact R7 (s:=0) (n:=1) (X8 _ _ _ _ _ _ _ _ rfl) rfl (.inl (by decide)) h0 rfl
  rw[if_neg h8]
  have hs3:gU (some (.int .i64 2)) none (o8 l)=some (o8 (l.drop 2)):=aW l .i64 2 (by omega) (by omega)
  have hct:=aL7 w n (l.drop 2) 47 (by rw[List.length_drop];omega)
  have hwl:=(Go.Itp.words_len (c:=47) (l.drop 2).length (s:=l.drop 2) (Nat.le_refl _))
  have hwn:=eH 47 (l.drop 2)
  have hdl:(l.drop 2).length=l.length - 2:=List.length_drop
  generalize p5 47 (l.drop 2)=q at*
  generalize l.drop 2=T2 at*
  obtain ⟨q0,qt,rfl⟩:∃ a t,q=a::t:=by
   cases q with
   |nil=>exact absurd rfl hwn
   |cons a t=>exact ⟨a,t,rfl⟩
  have hn0:=uC w n q0 (by have:=hwl.2 q0 (by simp);omega)
  have dl0:E7 (sD q0::List.map sD qt) 0 none=some (o8 q0):=(rfl)
  rw[show (q0::qt)[0]! =q0 from rfl]
  unfold lT at hn0
  by_cases h67:k=6∨k=7
  ·rw[if_pos h67]
   by_cases hp2:(q0::qt).length=2
   ·rw[if_pos hp2]
    obtain ⟨q1,rfl⟩:∃ a,qt= [a]:=by
     cases qt with
     |nil=>simp at hp2
     |cons a t=>cases t with
      |nil=>exact ⟨a,rfl⟩
      |cons b t=>simp at hp2
    have hn1:=uC w n q1 (by have:=hwl.2 q1 (by simp);omega)
    have dlA:E7 [sD q0,sD q1] 0 none=some (o8 q0):=(rfl)
    have dlB:E7 [sD q0,sD q1] 1 none=some (o8 q1):=(rfl)
    have hl3:2<l.length:=by have:=hwl.1;omega
    rw[show [q0,q1][1]! =q1 from rfl]
    unfold lT at hn1
    generalize (W0 q0).getD 0=a0 at*
    generalize (W0 q0).isSome=b0 at*
    generalize (W0 q1).getD 0=a1 at*
    generalize (W0 q1).isSome=b1 at*
    have hbb:(b1 && b0)=if b1=true then b0 else false:=by cases b1<;>rfl
    rw[hbb]
    clear hbb hwl hwn hp2 hdl hkl h8
    rcases h67 with rfl|rfl
    all_goals
     cases b1
     all_goals
      cases p
      all_goals
       simp only[reduceIte,Bool.false_eq_true] at hb0 ⊢
       refine A1 rfl rfl (fun _ _=>rfl) (Nat.le_of_ble_eq_true rfl) (i6 w) G0 rfl fun C hC h0=>?_
       repeat' (first|(simp (disch:=first|omega|exact bd (by with_unfolding_all rfl)|(simp only[d9]<;>omega)) only[WA,Nat.reduceEqDiff,Nat.reduceLT,Int.reduceEq,↓reduceIte,reduceCtorEq,List.replicate,c89,h1e,hsz,hs2,h2e,hb0,hs1]))
       all_goals try (exfalso;omega)
       all_goals refine a6 (by rw[hC];exact hnu.flat rfl rfl) ?_
       all_goals repeat' (first|(simp (disch:=first|exact bd (by with_unfolding_all rfl)|fail) only[WA,Nat.reduceEqDiff,Nat.reduceLT,↓reduceIte,reduceCtorEq,hb1]))
       all_goals refine a6 (by rw[hC];exact hki.flat rfl rfl) ?_
       all_goals repeat' (first|(simp (disch:=first|omega|exact bd (by with_unfolding_all rfl)|(simp only[d9]<;>omega)) only[WA,Nat.reduceEqDiff,Nat.reduceLT,↓reduceIte,reduceCtorEq,hsz,hs3]))
       all_goals try (exfalso;omega)
       all_goals refine n4 (by rw[hC];exact hct) rfl rfl (fun _=>rfl) ?_
       all_goals repeat' (first|(simp (disch:=first|omega|exact bd (by with_unfolding_all rfl)|fail) only[WA,Nat.reduceEqDiff,Nat.reduceLT,Nat.reduceAdd,↓reduceIte,uH,tn1,dlA,dlB,List.length_cons,List.length_nil,List.map_cons,List.map_nil]))
       all_goals refine a6 (by rw[hC];exact hn1.flat rfl rfl) ?_
       all_goals repeat' (first|(simp (disch:=first|omega|exact bd (by with_unfolding_all rfl)|(simp only[d9]<;>omega)) only[WA,Nat.reduceEqDiff,Nat.reduceLT,↓reduceIte,uH,tn1,dlA,dlB]))
       all_goals refine a6 (by rw[hC];exact hn0.flat rfl rfl) ?_
       all_goals repeat' (first|(simp (disch:=first|exact bd (by with_unfolding_all rfl)|(simp only[d9]<;>omega)) only[WA,Nat.reduceEqDiff,Nat.reduceLT,Nat.reduceAdd,↓reduceIte,O8]))
       all_goals exact R7 (s:=0) (n:=1) (X8 _ _ _ _ _ _ _ _ rfl) rfl (.inl (by decide)) h0 rfl
   ·rw[if_neg hp2]
    have hp2:¬ qt.length+1=2:=hp2
    generalize (W0 q0).getD 0=a0 at*
    generalize (W0 q0).isSome=b0 at*
    clear hwl hwn hkl h8
    rcases h67 with rfl|rfl
    all_goals
     cases p
     all_goals
      simp only[reduceIte,Bool.false_eq_true] at hb0 ⊢
      refine A1 rfl rfl (fun _ _=>rfl) (Nat.le_of_ble_eq_true rfl) (i6 w) G0 rfl fun C hC h0=>?_
      repeat' (first|(simp (disch:=first|omega|exact bd (by with_unfolding_all rfl)|(simp only[d9]<;>omega)) only[WA,Nat.reduceEqDiff,Nat.reduceLT,Int.reduceEq,↓reduceIte,reduceCtorEq,List.replicate,c89,h1e,hsz,hs2,h2e,hb0,hs1])|(apply l9<;>intro _))
      all_goals try (exfalso;omega)
      all_goals refine a6 (by rw[hC];exact hnu.flat rfl rfl) ?_
      all_goals repeat' (first|(simp (disch:=first|exact bd (by with_unfolding_all rfl)|fail) only[WA,Nat.reduceEqDiff,Nat.reduceLT,↓reduceIte,reduceCtorEq,hb1]))
      all_goals refine a6 (by rw[hC];exact hki.flat rfl rfl) ?_
      all_goals repeat' (first|(simp (disch:=first|omega|exact bd (by with_unfolding_all rfl)|(simp only[d9]<;>omega)) only[WA,Nat.reduceEqDiff,Nat.reduceLT,↓reduceIte,reduceCtorEq,hsz,hs3]))
      all_goals try (exfalso;omega)
      all_goals refine n4 (by rw[hC];exact hct) rfl rfl (fun _=>rfl) ?_
      all_goals repeat' (first|(simp (disch:=first|omega|exact bd (by with_unfolding_all rfl)|fail) only[WA,Nat.reduceEqDiff,Nat.reduceLT,↓reduceIte,uH,dl0,List.length_cons,List.map_cons,hp2]))
      all_goals try (exfalso;omega)
      all_goals refine a6 (by rw[hC];exact hn0.flat rfl rfl) ?_
      all_goals repeat' (first|(simp (disch:=first|exact bd (by with_unfolding_all rfl)|(simp only[d9]<;>omega)) only[WA,Nat.reduceEqDiff,Nat.reduceLT,Nat.reduceAdd,↓reduceIte,O8]))
      all_goals exact R7 (s:=0) (n:=1) (X8 _ _ _ _ _ _ _ _ rfl) rfl (.inl (by decide)) h0 rfl
  ·rw[if_neg h67]
   have h6:¬ k=6:=fun h=>h67 (.inl h)
   have h7:¬ k=7:=fun h=>h67 (.inr h)
   have h6i:¬ ((k:Nat):Int)=6:=by omega
   have h7i:¬ ((k:Nat):Int)=7:=by omega
   have h8i:¬ ((k:Nat):Int)=8:=by omega
   generalize (W0 q0).getD 0=a0 at*
   generalize (W0 q0).isSome=b0 at*
   clear hwl hwn hkl h8 h67
   obtain ⟨B,hB⟩:∃ B:Bool,decide (k ≠ 0∧(q0::qt).length=1)=B:=⟨_,rfl⟩
   have hB1:(B=true↔¬ ((k:Nat):Int)=0∧qt.length+1=1):=by
    rw[← hB,decide_eq_true_iff]
    simp only[List.length_cons]
    omega
   have hbb:(B && b0)=if B=true then b0 else false:=by cases B<;>rfl
   rw[hB,hbb]
   clear hB hbb
   have hcase:(B=true∧¬ ((k:Nat):Int)=0∧qt.length+1=1)∨(B=false∧k=0)∨(B=false∧¬ ((k:Nat):Int)=0∧¬ qt.length+1=1):=by
    cases B with
    |true=>exact .inl ⟨rfl,hB1.1 rfl⟩
    |false=>
     by_cases e:k=0
     ·exact .inr (.inl ⟨rfl,e⟩)
     ·refine .inr (.inr ⟨rfl,by omega,fun e2=>?_⟩)
      have:=hB1.2 ⟨by omega,e2⟩
      cases this
   clear hB1
   rcases hcase with ⟨rfl,hk0,hq1⟩|⟨rfl,rfl⟩|⟨rfl,hk0,hq1⟩
   all_goals
    cases p
    all_goals
     simp only[reduceIte,Bool.false_eq_true] at hb0 ⊢
     refine A1 rfl rfl (fun _ _=>rfl) (Nat.le_of_ble_eq_true rfl) (i6 w) G0 rfl fun C hC h0=>?_
     repeat' (first|(simp (disch:=first|omega|exact bd (by with_unfolding_all rfl)|(simp only[d9]<;>omega)) only[WA,Nat.reduceEqDiff,Nat.reduceLT,Int.reduceEq,↓reduceIte,reduceCtorEq,List.replicate,c89,h1e,hsz,hs2,h2e,hb0,hs1])|(apply l9<;>intro _))
     all_goals try (exfalso;omega)
     all_goals refine a6 (by rw[hC];exact hnu.flat rfl rfl) ?_
     all_goals repeat' (first|(simp (disch:=first|exact bd (by with_unfolding_all rfl)|fail) only[WA,Nat.reduceEqDiff,Nat.reduceLT,↓reduceIte,reduceCtorEq,hb1]))
     all_goals refine a6 (by rw[hC];exact hki.flat rfl rfl) ?_
     all_goals repeat' (first|(simp (disch:=first|exact bd (by with_unfolding_all rfl)|(simp only[d9]<;>omega)) only[WA,Nat.reduceEqDiff,Nat.reduceLT,↓reduceIte,reduceCtorEq,hsz,hs3,h6i,h7i,h8i]))
     all_goals try (exfalso;omega)
     all_goals refine n4 (by rw[hC];exact hct) rfl rfl (fun _=>rfl) ?_
     all_goals repeat' (first|(simp (disch:=first|omega|exact bd (by with_unfolding_all rfl)|fail) only[WA,Nat.reduceEqDiff,Nat.reduceLT,↓reduceIte,uH,dl0,List.length_cons,List.map_cons,h6i,h7i]))
     all_goals try (exfalso;omega)
     all_goals refine a6 (by rw[hC];exact hn0.flat rfl rfl) ?_
     all_goals repeat' (first|(simp (disch:=first|exact bd (by with_unfolding_all rfl)|(simp only[d9]<;>omega)) only[WA,Nat.reduceEqDiff,Nat.reduceLT,Nat.reduceAdd,↓reduceIte,O8]))
     all_goals exact R7 (s:=0) (n:=1) (X8 _ _ _ _ _ _ _ _ rfl) rfl (.inl (by decide)) h0 rfl
end
set_option maxHeartbeats 400000
theorem uG:∀ L:List p9,T6 (q9 L)=true
 | []=>rfl
 |x::L=>by
  have:=uG L
  have e:q9 (x::L)= [.sc (.int .u8 x.kind),.sc (.bool x.purl),.sc (.int .i64 x.a),.sc (.int .i64 x.b)]++q9 L:=by simp[q9]
  rw[e]
  simpa [T6,IX] using this
theorem jB (s:List UInt8):K9 (E6 s).1=0:=by
 unfold E6
 repeat' split
 all_goals first|rfl|(rename_i h;exact h.1)
theorem ES {t e n s:Nat} {z:Bool} {l:List D} {x:Value} (h:n=0↔l= []):bH [(0,.gro t e z l)] (.tup [.gr s 0 n,.sc x]):=by
 refine nH ?_ (fun o ob ho=>by rw[(dC ho).2]) (fun o ob ho=>by rw[(dC ho).1];simp[Y2,eE])
 simp only[Cl,GR,and_true]
 exact ⟨t,e,z,l,rfl,h⟩
section
variable (w:World) (n:Nat)
theorem EC (s:List UInt8) (hs:s.length≤3000) (hne:s ≠ []) (L:List p9) (hL:E6 s=(L,0)):n9 (EN w (n+4)) 67 [o8 s] (.tup [.gr 2 0 L.length,.sc (.int .i64 0)]) ⟨[(0,.gro 48 4 false (q9 L))],1,0⟩:=by
 have hsz:=s8 s
 have hnt:((⟨s.toArray⟩:ByteArray)=⟨#[]⟩)=(s= []):=X0 s []
 obtain ⟨hr,hall,hwr⟩:nC (p5 32 s) []=some L∧K9 L=0∧eI L=s:=by
  unfold E6 at hL
  rw[if_neg (by omega),if_neg hne] at hL
  cases hr:nC (p5 32 s) [] with
  |none=>rw[hr] at hL;cases hL
  |some M=>
   rw[hr] at hL
   simp only at hL
   by_cases h:K9 M=0∧eI M=s
   ·rw[if_pos h] at hL
    cases hL
    exact ⟨rfl,h⟩
   ·rw[if_neg h] at hL;cases hL
 have hsp:=aL7 w (n+2) s 32 (by omega)
 have hwl:=(Go.Itp.words_len (c:=32) s.length (s:=s) (Nat.le_refl _))
 generalize p5 32 s=q at*
 clear hL
 refine A1 rfl rfl (fun _ _=>rfl) (Nat.le_of_ble_eq_true rfl) (i6 w) (ES (by
  have:=z6 L
  constructor
  ·intro h;exact List.length_eq_zero_iff.1 (by omega)
  ·intro h;rw[h] at this;simp at this;omega)) rfl fun C hC h0=>?_
 have hrn:C.E.rounds=F4:=by rw[hC,m7]
 simp (disch:=first|omega|exact bd (by with_unfolding_all rfl)|fail) only[WA,Nat.reduceEqDiff,Nat.reduceLT,↓reduceIte,reduceCtorEq,c67,hsz,hnt,hne]
 all_goals try (exfalso;omega)
 refine n4 (by rw[hC];exact hsp) rfl rfl (fun _=>rfl) ?_
 repeat' (first|(simp (disch:=fail) only[WA,i7,l7,Nat.reduceEqDiff,Nat.reduceLT,Nat.reduceAdd,Nat.reduceBEq,Int.reduceAdd,Int.reduceSub,Int.reduceLT,Int.reduceLE,Int.reduceEq,Int.reduceNeg,↓reduceIte,reduceCtorEq,List.replicate])|apply j6|((first|apply n6|apply l9|apply k8|apply n7|apply n5|apply k9)<;>intro _))
 refine A6 (fun m fr st=>∃ (k:Nat) (acc:List p9),m=q.length - k∧k≤q.length∧acc.length≤200∧KA acc∧nC (q.drop k) acc=some L∧fr= [(0,o8 s),(4,.sl 2 q.length (q.map sD)),(5,.gr 2 0 acc.length),(6,.sc (.int .i64 k))]∧st=⟨[(0,.gro 48 4 false (q9 acc))],1,0⟩) q.length ?_ ⟨_,_,P1 5 48 4 rfl,0,[],by omega,Nat.zero_le _,Nat.zero_le _,(fun x hx=>by cases hx),hr,rfl,rfl⟩ ?_
 ·rw[hrn];unfold F4;omega
 rintro m fr st ⟨k,acc,rfl,hk,hal,hap,hraw,rfl,rfl⟩
 have hd:=z6 acc
 by_cases hlt:k<q.length
 ·have hqk:q.drop k=q[k]! ::q.drop (k+1):=by rw[List.drop_eq_getElem_cons hlt,getElem!_pos q k hlt]
  have hpl:=hwl.2 q[k]! (by rw[getElem!_pos q k hlt];exact List.getElem_mem hlt)
  have hwd:=bW1 w (n+1) q[k]! (by omega)
  have hwk:=VP q[k]!
  have hwlen:=aI5 q[k]!
  rw[hqk,nC] at hraw
  generalize hp:q[k]! =p at*
  generalize mE p=R at*
  obtain ⟨M,b⟩:=R
  simp only at hraw hwk hwlen hwd
  have hdL:=z6 M
  by_cases hb:b=true
  case neg=>rw[if_neg hb] at hraw;cases hraw
  rw[if_pos hb] at hraw
  subst hb
  have hsa:=QJ acc M
  have hokL:=uG M
  have hso:∀ H:E1,M8 H 4 (.sl 3 M.length (q9 M))=some (M.length,q9 M,[]):=fun H=>jN H 4 3 M.length (q9 M) hdL
  by_cases hgt:200<(acc++M).length
  ·rw[if_pos hgt] at hraw;cases hraw
  rw[if_neg hgt] at hraw
  rw[List.length_append] at hgt
  unfold bO2 at hwd
  simp only at hwd
  generalize q9 acc=AD at*
  generalize q9 M=LD at*
  simp (disch:=first|omega|exact bd (by with_unfolding_all rfl)|fail) only[WA,Nat.reduceEqDiff,Nat.reduceLT,↓reduceIte,reduceCtorEq,aK6,hp]
  all_goals try (exfalso;omega)
  refine n4 (by rw[hC];exact hwd) rfl rfl (fun _=>rfl) ?_
  simp (disch:=first|omega|exact bd (by with_unfolding_all rfl)|fail) only[WA,Nat.reduceEqDiff,Nat.reduceLT,Nat.reduceAdd,↓reduceIte,reduceCtorEq,hso,hokL,J7]
  all_goals try (exfalso;omega)
  refine ⟨q.length - (k+1),_,_,by omega,w7 [(1,0)] 1 h0 rfl rfl rfl rfl,k+1,acc++M,rfl,by omega,by rw[List.length_append];omega,fun x hx=>?_,hraw,by rw[List.length_append];rfl,by rw[hsa];rfl⟩
  rcases List.mem_append.1 hx with hx|hx
  ·exact hap x hx
  ·exact hwk x hx
 ·have:k=q.length:=by omega
  subst this
  rw[List.drop_length,nC] at hraw
  obtain rfl:=Option.some.inj hraw
  have ha:=bT1 w n 2 acc (by omega) hap
  rw[hall] at ha
  have hwr1:=aI8 w n 2 acc hal (L0 hall).2.1
  rw[hwr] at hwr1
  have h1:∀ st:m9,f7 st.own 0=some (.gro 48 4 false (q9 acc))→I2 st.own [.gr 2 0 acc.length]=some [.sl 2 acc.length (q9 acc)]:=fun st h=>kZ (V0 h hd)
  simp (disch:=first|omega|exact bd (by with_unfolding_all rfl)|fail) only[WA,Nat.reduceEqDiff,Nat.reduceLT,↓reduceIte,reduceCtorEq,aK6]
  all_goals try (exfalso;omega)
  refine a6 (by rw[hC];exact ha.flat rfl (h1 _ rfl)) ?_
  simp (disch:=first|exact bd (by with_unfolding_all rfl)|fail) only[WA,Nat.reduceEqDiff,Nat.reduceLT,↓reduceIte,reduceCtorEq]
  refine a6 (by rw[hC];exact hwr1.flat rfl (h1 _ rfl)) ?_
  simp (disch:=first|exact bd (by with_unfolding_all rfl)|fail) only[WA,Nat.reduceEqDiff,Nat.reduceLT,↓reduceIte,reduceCtorEq]
  exact w7 [(0,0)] 1 h0 rfl rfl rfl rfl
end
section
variable (w:World) (n:Nat)
end
def bX:Option (p9 × Int)→V
 |none=> .tup [nM tW,.sc (.int .i64 0)]
 |some (x,m)=> .tup [nM x,.sc (.int .i64 m)]
section
variable (w:World) (n:Nat)
end
section
variable (w:World) (n:Nat)
end
abbrev bT6 (b:Bool) (s:Nat) (L:List p9):V:= .agg [.sc (.bool b),.sl s L.length (q9 L)]
theorem aP9 (b:Bool) (z:Int) (r:List UInt8):aM b z++r= [114,111,119,32]++(Lib.itoa z++([32,40]++(W3 b++([41,58,32]++r)))):=by simp[aM,aF4,lK]
theorem mN {L:List p9} (h:(p7 L).2=0):(p7 L).1.length≤2000:=by
 have h4:=(J8 h).2
 rw[h4]
 unfold p7 at h h4
 split at h
 ·split at h
  ·exact absurd h (by decide)
  ·show (A0 L).length≤2000
   omega
 ·rename_i e
  exact absurd h e
theorem CS (b:Bool):(W3 b).length≤5:=by cases b<;>decide
section
variable (w:World) (n:Nat)
theorem aN2 (b:Bool):n9 (EN w (n+1)) 36 [.sc (.bool b)] (o8 (W3 b)) ⟨[],0,0⟩:=by
 cases b
 all_goals
  refine d6 rfl rfl (fun _ _=>rfl) (Nat.le_of_ble_eq_true rfl) (i6 w) rfl fun C hC h0=>?_
  repeat' (first|(simp (disch:=first|exact bd (by with_unfolding_all rfl)|fail) only[WA,Nat.reduceEqDiff,Nat.reduceLT,↓reduceIte,reduceCtorEq,c36]))
  exact b8 rfl h0 rfl
theorem aV7 (b:Bool) (s:Nat) (L:List p9) (z:Int) (hL:L.length≤140737488351232) (hK:KA L):n9 (EN w (n+8)) 15 [bT6 b s L,.sc (.int .i64 z)] (.tup [o8 (F6 b L z).1,.sc (.int .i64 (F6 b L z).2)]) ⟨[],0,0⟩:=by
 have ha:=JI w (n+1) s L hL hK
 have hc:=kE w n s L hL hK
 have hf:=aN2 w (n+6) b
 have hfl:=CS b
 have hcl:=mN (L:=L)
 unfold F6
 by_cases h0:K9 L=0
 case neg=>
  rw[if_neg h0]
  generalize K9 L=e at*
  refine d6 rfl rfl (fun _ _=>rfl) (Nat.le_of_ble_eq_true rfl) (i6 w) rfl fun C hC h0=>?_
  simp (disch:=first|exact bd (by with_unfolding_all rfl)|fail) only[WA,Nat.reduceEqDiff,Nat.reduceLT,↓reduceIte,reduceCtorEq,c15]
  refine a6 (by rw[hC];exact ha.flat rfl rfl) ?_
  simp (disch:=first|omega|exact bd (by with_unfolding_all rfl)|fail) only[WA,Nat.reduceEqDiff,Nat.reduceLT,↓reduceIte]
  all_goals try (exfalso;omega)
  exact b8 rfl h0 rfl
 rw[h0] at ha
 rw[if_pos h0]
 by_cases h1:z<1∨100<z
 ·rw[if_pos h1]
  refine d6 rfl rfl (fun _ _=>rfl) (Nat.le_of_ble_eq_true rfl) (i6 w) rfl fun C hC h0=>?_
  rcases h1 with h1|h1
  all_goals
   repeat' (first|(simp (disch:=first|exact bd (by with_unfolding_all rfl)|fail) only[WA,Nat.reduceEqDiff,Nat.reduceLT,↓reduceIte,reduceCtorEq,c15]))
   refine a6 (by rw[hC];exact ha.flat rfl rfl) ?_
   repeat' (first|(simp (disch:=first|omega|exact bd (by with_unfolding_all rfl)|fail) only[WA,Nat.reduceEqDiff,Nat.reduceLT,↓reduceIte]))
   all_goals try (exfalso;omega)
   exact b8 rfl h0 rfl
 rw[if_neg h1]
 by_cases h2:(p7 L).2=0
 ·rw[if_pos h2]
  have hi:=fun st=>TP w (n+6) st z (by omega) (by omega)
  have hil:=F9 (z:=z) (by omega) (by omega)
  have hcl:=hcl h2
  rw[h2] at hc
  generalize (p7 L).1=W at*
  rw[List.append_assoc,aP9]
  generalize Lib.itoa z=A at*
  generalize W3 b=F at*
  refine d6 rfl rfl (fun _ _=>rfl) (Nat.le_of_ble_eq_true rfl) (i6 w) rfl fun C hC h0=>?_
  simp (disch:=first|exact bd (by with_unfolding_all rfl)|fail) only[WA,Nat.reduceEqDiff,Nat.reduceLT,↓reduceIte,reduceCtorEq,c15]
  refine a6 (by rw[hC];exact ha.flat rfl rfl) ?_
  simp (disch:=first|omega|exact bd (by with_unfolding_all rfl)|fail) only[WA,Nat.reduceEqDiff,Nat.reduceLT,↓reduceIte]
  all_goals try (exfalso;omega)
  refine a6 (by rw[hC];exact hc.flat rfl rfl) ?_
  simp (disch:=first|exact bd (by with_unfolding_all rfl)|fail) only[WA,i7,l7,Nat.reduceEqDiff,Nat.reduceLT,Nat.reduceAdd,↓reduceIte]
  all_goals try (exfalso;omega)
  refine Q6 (by rw[hC];exact hi _) ?_
  simp (disch:=first|exact bd (by with_unfolding_all rfl)|(simp only[d9]<;>omega)) only[WA,i7,l7,Nat.reduceEqDiff,Nat.reduceLT,Nat.reduceAdd,↓reduceIte,K2,List.append_assoc]
  all_goals try (exfalso;omega)
  refine Q6 (by rw[hC];exact hf.flat rfl rfl) ?_
  simp (disch:=first|exact bd (by with_unfolding_all rfl)|(simp only[d9]<;>omega)) only[WA,i7,l7,Nat.reduceEqDiff,Nat.reduceLT,↓reduceIte,K2,List.append_assoc]
  all_goals try (exfalso;omega)
  exact b8 rfl h0 rfl
 ·rw[if_neg h2]
  generalize (p7 L).2=e at*
  generalize (p7 L).1=W at*
  refine d6 rfl rfl (fun _ _=>rfl) (Nat.le_of_ble_eq_true rfl) (i6 w) rfl fun C hC h0=>?_
  simp (disch:=first|exact bd (by with_unfolding_all rfl)|fail) only[WA,Nat.reduceEqDiff,Nat.reduceLT,↓reduceIte,reduceCtorEq,c15]
  refine a6 (by rw[hC];exact ha.flat rfl rfl) ?_
  simp (disch:=first|omega|exact bd (by with_unfolding_all rfl)|fail) only[WA,Nat.reduceEqDiff,Nat.reduceLT,↓reduceIte]
  all_goals try (exfalso;omega)
  refine a6 (by rw[hC];exact hc.flat rfl rfl) ?_
  simp (disch:=first|omega|exact bd (by with_unfolding_all rfl)|fail) only[WA,Nat.reduceEqDiff,Nat.reduceLT,↓reduceIte]
  all_goals try (exfalso;omega)
  exact b8 rfl h0 rfl
end
theorem jT {C:D0} {st:m9} {b x y:Value} (h0:C.w0.nx=0) (hro:st.ro=0):N0 C [(0,.tup [.agg [.sc b,.sc (.slice none 0 0)],.sc x,.sc y])] st [(0,.tup [.agg [.sc b,.sl 3 0 []],.sc x,.sc y])] ⟨[],0,0⟩:=
 (M2 (t:=0) (v:= .tup [.agg [.sc b,.sc (.slice none 0 0)],.sc x,.sc y]) (v':= .tup [.agg [.sc b,.sl 3 0 []],.sc x,.sc y]) rfl (yY (.cons (yX (.cons (.refl _) (.cons kY .nil))) (.cons (.refl _) (.cons (.refl _) .nil))))).trans (w7 [] 0 h0 hro rfl rfl rfl)
theorem ER {b x y:Value} {n:Nat} {l:List D}:bH [] (.tup [.agg [.sc b,.sl 3 n l],.sc x,.sc y]):=dY (by simp only[Cl,GR,and_true];exact ⟨trivial,rfl⟩)
def OS:Option (Bool × List p9 × Int)→V
 |none=> .tup [bT6 false 3 [],.sc (.int .i64 0),.sc (.int .i64 12)]
 |some (b,L,m)=> .tup [bT6 b 3 L,.sc (.int .i64 m),.sc (.int .i64 0)]
theorem UH (s:List UInt8):K9 (M5 s).1=0:=by
 unfold M5
 cases h:cT s with
 |none=>rfl
 |some L=>
  have h1:=JA h
  by_cases e:K9 L=0
  ·exact e
  ·unfold p7 at h1
   rw[if_neg e] at h1
   exact absurd (congrArg Prod.snd h1) e
theorem nW {L:List p9} (h:K9 L=0):KA L:=fun x hx=>by
 have:=(D8.1 (List.all_eq_true.1 (L0 h).2.1 x hx)).bounds
 omega
abbrev bT5 (x y:V):Go.Itp.Obj:= .box 36 1 [x,y]
abbrev ZF:Go.Itp.Obj:=bT5 (.sc (.bool false)) (.sc (.slice none 0 0))
section
variable (w:World) (n:Nat)
theorem UO {C:D0} (hC:C.E=EN w (n+9)) (s c:List UInt8) (hs:s.length≤100000) (hc:c.length≤100000) (v:Int) (b:Bool) (j:Int) (hj:(j=0∧b=false)∨(j=1∧b=true)) {P:B9}
  (hgo:lH b v c s=none→∀ st,(st=⟨[(0,ZF)],1,0⟩∨∃ x y,st=⟨[(1,bT5 x y),(0,ZF)],2,0⟩)→P .normal [(0,o8 s),(2,.ptr 0 0),(5,.sl 3 1 [iD v]),(8,o8 c),(37,.agg [.sc (.bool false),.sc (.bool true)]),(38,.sc (.int .i64 (j+1)))] st)
  (hret:∀ fr st L,lH b v c s=some (b,L,v)→f7 fr 2=some (.ptr 0 0)→f7 fr 3=some (.sc (.int .i64 v))→f7 fr 4=some (.sc (.int .i64 0))→f7 st.own 0=some (bT5 (.sc (.bool b)) (.sl 3 L.length (q9 L)))→st.ro=0→P .ret fr st):
  gC C sH [] [(0,o8 s),(2,.ptr 0 0),(5,.sl 3 1 [iD v]),(8,o8 c),(37,.agg [.sc (.bool false),.sc (.bool true)]),(38,.sc (.int .i64 j))] ⟨[(0,ZF)],1,0⟩ P:=by
 have hix:wS 2 1 none (.agg [.sc (.bool false),.sc (.bool true)]) (.sc (.int .i64 j))=some (.sc (.bool b)):=by rcases hj with ⟨rfl,rfl⟩|⟨rfl,rfl⟩<;>rfl
 have hjb:0≤j∧j≤1:=by omega
 clear hj
 have hf:=aN2 w (n+8) b
 have hfl:=CS b
 have hcp:=vP w (n+6) c (W3 b++ [41,58,32]) (by omega)
 have htry:lH b v c s=match y9 (W3 b++ [41,58,32]) c with
  |none=>none
  |some t=>if (M5 t).2=0∧F6 b (M5 t).1 v=(s,0) then some (b,(M5 t).1,v) else none:=rfl
 rw[htry] at hgo hret
 cases hcc:y9 (W3 b++ [41,58,32]) c with
 |none=>
  rw[hcc] at hcp hgo
  clear hret htry hcc
  have hgo:=hgo rfl _ (.inl rfl)
  generalize W3 b=F at*
  simp (disch:=first|omega|exact bd (by with_unfolding_all rfl)|fail) only[WA,Nat.reduceEqDiff,Nat.reduceLT,↓reduceIte,reduceCtorEq,sH,hix]
  refine a6 (by rw[hC];exact hf.flat rfl rfl) ?_
  simp (disch:=first|exact bd (by with_unfolding_all rfl)|(simp only[d9]<;>omega)) only[WA,Nat.reduceEqDiff,Nat.reduceLT,↓reduceIte,reduceCtorEq,K2]
  all_goals try (exfalso;omega)
  refine a6 (by rw[hC];exact hcp.flat rfl rfl) ?_
  simp (disch:=first|omega|exact bd (by with_unfolding_all rfl)|fail) only[WA,Nat.reduceEqDiff,Nat.reduceLT,↓reduceIte,reduceCtorEq,Option.isSome_none,Option.getD_none]
  exact hgo
 |some t=>
  have hle:=aY hcc
  have htl:t.length≤c.length:=by rw[hle.2,List.length_drop];omega
  rw[hcc] at hcp hgo hret
  clear hle hcc htry
  have ha:=UH t
  have hpc:=yA w n t (by omega)
  have hrw:=aV7 w (n+1) b 3 (M5 t).1 v (by have:=(L0 ha).1;omega) (nW ha)
  clear ha
  simp only at hgo hret
  generalize M5 t=q at*
  obtain ⟨L,e⟩:=q
  simp only at hgo hret hpc hrw
  have hd:=z6 L
  have hmj:((⟨(F6 b L v).1.toArray⟩:ByteArray)=⟨s.toArray⟩)=((F6 b L v).1=s):=X0 _ _
  generalize W3 b=F at*
  by_cases he:e=0∧F6 b L v=(s,0)
  ·rw[if_pos he] at hret
   obtain ⟨rfl,h2⟩:=he
   rw[h2] at hrw
   have hret:=fun fr st=>hret fr st L rfl
   clear hgo hmj h2
   simp (disch:=first|omega|exact bd (by with_unfolding_all rfl)|fail) only[WA,Nat.reduceEqDiff,Nat.reduceLT,↓reduceIte,reduceCtorEq,sH,hix]
   refine a6 (by rw[hC];exact hf.flat rfl rfl) ?_
   simp (disch:=first|exact bd (by with_unfolding_all rfl)|(simp only[d9]<;>omega)) only[WA,Nat.reduceEqDiff,Nat.reduceLT,↓reduceIte,reduceCtorEq,K2]
   all_goals try (exfalso;omega)
   refine a6 (by rw[hC];exact hcp.flat rfl rfl) ?_
   simp (disch:=first|exact bd (by with_unfolding_all rfl)|fail) only[WA,Nat.reduceEqDiff,Nat.reduceLT,↓reduceIte,reduceCtorEq,Option.isSome_some,Option.getD_some]
   refine n4 (by rw[hC];exact hpc) rfl rfl (fun _=>rfl) ?_
   simp (disch:=first|omega|exact bd (by with_unfolding_all rfl)|(simp only[d9]<;>omega)) only[WA,i7,l7,Nat.reduceEqDiff,Nat.reduceLT,Nat.reduceAdd,↓reduceIte,reduceCtorEq,List.replicate,uH,dl1]
   refine Q6 (by rw[hC];exact hrw.flat rfl rfl) ?_
   repeat' (first|(simp (disch:=first|omega|exact bd (by with_unfolding_all rfl)|(simp only[d9]<;>omega)) only[WA,i7,l7,Nat.reduceEqDiff,Nat.reduceLT,↓reduceIte,reduceCtorEq,uH,dl1,aH0,TA,bD2])|apply j6)
   exact hret _ _ rfl rfl rfl rfl rfl
  ·have hg:=fun x y=>hgo (if_neg he) _ (.inr ⟨x,y,rfl⟩)
   clear hgo hret
   have he:¬ (e=0∧(F6 b L v).2=0∧(F6 b L v).1=s):=fun h=>he ⟨h.1,Prod.ext h.2.2 h.2.1⟩
   generalize F6 b L v=r at*
   obtain ⟨T,g⟩:=r
   simp only at he hrw hmj
   by_cases h1:e=0
   ·by_cases h2:g=0
    ·have h3:¬ T=s:=fun h=>he ⟨h1,h2,h⟩
     subst h1 h2
     rw[eq_false h3] at hmj
     simp (disch:=first|omega|exact bd (by with_unfolding_all rfl)|fail) only[WA,Nat.reduceEqDiff,Nat.reduceLT,↓reduceIte,reduceCtorEq,sH,hix]
     refine a6 (by rw[hC];exact hf.flat rfl rfl) ?_
     simp (disch:=first|exact bd (by with_unfolding_all rfl)|(simp only[d9]<;>omega)) only[WA,Nat.reduceEqDiff,Nat.reduceLT,↓reduceIte,reduceCtorEq,K2]
     all_goals try (exfalso;omega)
     refine a6 (by rw[hC];exact hcp.flat rfl rfl) ?_
     simp (disch:=first|exact bd (by with_unfolding_all rfl)|fail) only[WA,Nat.reduceEqDiff,Nat.reduceLT,↓reduceIte,reduceCtorEq,Option.isSome_some,Option.getD_some]
     refine n4 (by rw[hC];exact hpc) rfl rfl (fun _=>rfl) ?_
     simp (disch:=first|omega|exact bd (by with_unfolding_all rfl)|(simp only[d9]<;>omega)) only[WA,i7,l7,Nat.reduceEqDiff,Nat.reduceLT,Nat.reduceAdd,↓reduceIte,reduceCtorEq,List.replicate,uH,dl1]
     refine Q6 (by rw[hC];exact hrw.flat rfl rfl) ?_
     simp (disch:=first|omega|exact bd (by with_unfolding_all rfl)|(simp only[d9]<;>omega)) only[WA,i7,l7,Nat.reduceEqDiff,Nat.reduceLT,↓reduceIte,reduceCtorEq,hmj]
     exact hg _ _
    ·subst h1
     simp (disch:=first|omega|exact bd (by with_unfolding_all rfl)|fail) only[WA,Nat.reduceEqDiff,Nat.reduceLT,↓reduceIte,reduceCtorEq,sH,hix]
     refine a6 (by rw[hC];exact hf.flat rfl rfl) ?_
     simp (disch:=first|exact bd (by with_unfolding_all rfl)|(simp only[d9]<;>omega)) only[WA,Nat.reduceEqDiff,Nat.reduceLT,↓reduceIte,reduceCtorEq,K2]
     all_goals try (exfalso;omega)
     refine a6 (by rw[hC];exact hcp.flat rfl rfl) ?_
     simp (disch:=first|exact bd (by with_unfolding_all rfl)|fail) only[WA,Nat.reduceEqDiff,Nat.reduceLT,↓reduceIte,reduceCtorEq,Option.isSome_some,Option.getD_some]
     refine n4 (by rw[hC];exact hpc) rfl rfl (fun _=>rfl) ?_
     simp (disch:=first|omega|exact bd (by with_unfolding_all rfl)|(simp only[d9]<;>omega)) only[WA,i7,l7,Nat.reduceEqDiff,Nat.reduceLT,Nat.reduceAdd,↓reduceIte,reduceCtorEq,List.replicate,uH,dl1]
     refine Q6 (by rw[hC];exact hrw.flat rfl rfl) ?_
     simp (disch:=first|omega|exact bd (by with_unfolding_all rfl)|(simp only[d9]<;>omega)) only[WA,i7,l7,Nat.reduceEqDiff,Nat.reduceLT,↓reduceIte,reduceCtorEq,h2]
     exact hg _ _
   ·simp (disch:=first|omega|exact bd (by with_unfolding_all rfl)|fail) only[WA,Nat.reduceEqDiff,Nat.reduceLT,↓reduceIte,reduceCtorEq,sH,hix]
    refine a6 (by rw[hC];exact hf.flat rfl rfl) ?_
    simp (disch:=first|exact bd (by with_unfolding_all rfl)|(simp only[d9]<;>omega)) only[WA,Nat.reduceEqDiff,Nat.reduceLT,↓reduceIte,reduceCtorEq,K2]
    all_goals try (exfalso;omega)
    refine a6 (by rw[hC];exact hcp.flat rfl rfl) ?_
    simp (disch:=first|exact bd (by with_unfolding_all rfl)|fail) only[WA,Nat.reduceEqDiff,Nat.reduceLT,↓reduceIte,reduceCtorEq,Option.isSome_some,Option.getD_some]
    refine n4 (by rw[hC];exact hpc) rfl rfl (fun _=>rfl) ?_
    simp (disch:=first|omega|exact bd (by with_unfolding_all rfl)|(simp only[d9]<;>omega)) only[WA,i7,l7,Nat.reduceEqDiff,Nat.reduceLT,Nat.reduceAdd,↓reduceIte,reduceCtorEq,List.replicate,uH,dl1]
    refine Q6 (by rw[hC];exact hrw.flat rfl rfl) ?_
    simp (disch:=first|omega|exact bd (by with_unfolding_all rfl)|fail) only[WA,i7,l7,Nat.reduceEqDiff,Nat.reduceLT,↓reduceIte,reduceCtorEq,h1]
    exact hg _ _
theorem aT3 (s:List UInt8) (hs:s.length≤100000):n9 (EN w (n+10)) 17 [o8 s] (OS (gR s)) ⟨[],0,0⟩:=by
 have hm:=IP w (n+2) s [114,111,119,32,35,32,40] hs (by decide)
 rw[show p5 35 ([114,111,119,32,35,32,40]:List UInt8)= [JH,xZ] from by decide+kernel] at hm
 have hlen:=fun m r (h:C3 [JH,xZ] s=some (m,r))=>nA (f:= [JH,xZ]) (by simp) h
 rw[← bG2]
 have hok:bH [] (OS (BF s)):=by
  rcases BF s with _|⟨a,b,c⟩
  ·exact ER
  ·exact ER
 have hun:BF s=match C3 [JH,xZ] s with
  |none=>none
  |some (m,r)=>match J6 [46] r with
   |none=>none
   |some c=>match lH false (m.headD 0) c s with
    |some x=>some x
    |none=>lH true (m.headD 0) c s:=rfl
 generalize BF s=R at*
 cases hM:C3 [JH,xZ] s with
 |none=>
  rw[hM] at hm hun
  have hcs:=vR w (n+6) [] [46] (by decide)
  rw[show J6 [46] ([]:List UInt8)=none from rfl] at hcs
  unfold iY at hm
  simp only at hun
  subst hun
  refine A1 rfl rfl (fun _ _=>rfl) (Nat.le_of_ble_eq_true rfl) (i6 w) hok rfl fun C hC h0=>?_
  simp (disch:=first|exact bd (by with_unfolding_all rfl)|fail) only[WA,Nat.reduceEqDiff,Nat.reduceLT,↓reduceIte,reduceCtorEq,List.replicate,c17]
  refine n4 (by rw[hC];exact hm) rfl rfl (fun _=>rfl) ?_
  simp (disch:=first|exact bd (by with_unfolding_all rfl)|fail) only[WA,Nat.reduceEqDiff,Nat.reduceLT,↓reduceIte,reduceCtorEq]
  refine a6 (by rw[hC];exact hcs.flat rfl rfl) ?_
  simp (disch:=first|omega|exact bd (by with_unfolding_all rfl)|(simp only[d9]<;>omega)) only[WA,Nat.reduceEqDiff,Nat.reduceLT,↓reduceIte,reduceCtorEq,Option.isSome_none,Option.getD_none]
  exact jT h0 rfl
 |some mr=>
  obtain ⟨m,r⟩:=mr
  have hl:=hlen m r hM
  rw[hM] at hm hun
  unfold iY at hm
  simp only at hun
  clear hlen hM
  obtain ⟨v,rfl⟩:∃ v,m= [v]:=by
   cases m with
   |nil=>simp at hl
   |cons a q=>cases q with
    |nil=>exact ⟨a,rfl⟩
    |cons b c=>simp at hl
  have hcs:=vR w (n+6) r [46] (by omega)
  cases hc:J6 [46] r with
  |none=>
   rw[hc] at hcs hun
   simp only at hun
   subst hun
   refine A1 rfl rfl (fun _ _=>rfl) (Nat.le_of_ble_eq_true rfl) (i6 w) hok rfl fun C hC h0=>?_
   simp (disch:=first|exact bd (by with_unfolding_all rfl)|fail) only[WA,Nat.reduceEqDiff,Nat.reduceLT,↓reduceIte,reduceCtorEq,List.replicate,c17]
   refine n4 (by rw[hC];exact hm) rfl rfl (fun _=>rfl) ?_
   simp (disch:=first|exact bd (by with_unfolding_all rfl)|fail) only[WA,Nat.reduceEqDiff,Nat.reduceLT,↓reduceIte,reduceCtorEq]
   refine a6 (by rw[hC];exact hcs.flat rfl rfl) ?_
   simp (disch:=first|omega|exact bd (by with_unfolding_all rfl)|(simp only[d9]<;>omega)) only[WA,Nat.reduceEqDiff,Nat.reduceLT,↓reduceIte,reduceCtorEq,Option.isSome_none,Option.getD_none]
   exact jT h0 rfl
  |some c=>
   have hcl:c.length≤r.length:=by
    have:=qJ hc
    rw[this.2,List.length_take]
    omega
   rw[hc] at hcs hun
   simp only[List.headD_cons] at hun
   refine A1 rfl rfl (fun _ _=>rfl) (Nat.le_of_ble_eq_true rfl) (i6 w) hok rfl fun C hC h0=>?_
   have hrn:C.E.rounds=F4:=by rw[hC,m7]
   simp (disch:=first|exact bd (by with_unfolding_all rfl)|fail) only[WA,Nat.reduceEqDiff,Nat.reduceLT,↓reduceIte,reduceCtorEq,List.replicate,c17]
   refine n4 (by rw[hC];exact hm) rfl rfl (fun _=>rfl) ?_
   simp (disch:=first|exact bd (by with_unfolding_all rfl)|fail) only[WA,Nat.reduceEqDiff,Nat.reduceLT,↓reduceIte,reduceCtorEq]
   refine a6 (by rw[hC];exact hcs.flat rfl rfl) ?_
   simp (disch:=first|exact bd (by with_unfolding_all rfl)|(simp only[d9]<;>omega)) only[WA,Nat.reduceEqDiff,Nat.reduceLT,↓reduceIte,reduceCtorEq,Option.isSome_some,Option.getD_some,List.map_cons,List.map_nil,List.length_cons,List.length_nil]
   have hround:=fun b j hj P=>UO w n hC s c hs (by omega) v b j hj (P:=P)
   refine A6 (fun m fr st=>∃ j:Int,(j=0∧m=2∨j=1∧m=1∧lH false v c s=none∨j=2∧m=0∧lH false v c s=none∧lH true v c s=none)∧fr= [(0,o8 s),(2,.ptr 0 0),(5,.sl 3 1 [iD v]),(8,o8 c),(37,.agg [.sc (.bool false),.sc (.bool true)]),(38,.sc (.int .i64 j))]∧st=⟨[(0,ZF)],1,0⟩) 2 ?_ ⟨_,_,.refl _ _,0,.inl ⟨rfl,rfl⟩,rfl,rfl⟩ ?_
   ·rw[hrn];unfold F4;omega
   rintro m fr st ⟨j,hj,rfl,rfl⟩
   rcases hj with ⟨rfl,rfl⟩|⟨rfl,rfl,h1⟩|⟨rfl,rfl,h1,h2⟩
   ·refine hround false 0 (.inl ⟨rfl,rfl⟩) _ (fun hn st hst=>?_) (fun fr st L hc e2 e3 e4 e5 e6=>?_)
    ·rcases hst with rfl|⟨x,y,rfl⟩
     all_goals
      repeat' (first|(simp (disch:=fail) only[WA,Int.reduceAdd]))
      exact ⟨1,_,_,by omega,w7 [(0,0)] 1 h0 rfl rfl rfl rfl,1,.inr (.inl ⟨rfl,rfl,hn⟩),rfl,rfl⟩
    ·rw[hc] at hun
     simp only at hun
     subst hun
     simp (disch:=fail) only[WA,e2,e3,e4,e5]
     exact w7 [] 0 h0 e6 rfl rfl rfl
   ·refine hround true 1 (.inr ⟨rfl,rfl⟩) _ (fun hn st hst=>?_) (fun fr st L hc e2 e3 e4 e5 e6=>?_)
    ·rcases hst with rfl|⟨x,y,rfl⟩
     all_goals
      repeat' (first|(simp (disch:=fail) only[WA,Int.reduceAdd]))
      exact ⟨0,_,_,by omega,w7 [(0,0)] 1 h0 rfl rfl rfl rfl,2,.inr (.inr ⟨rfl,rfl,h1,hn⟩),rfl,rfl⟩
    ·rw[h1,hc] at hun
     simp only at hun
     subst hun
     simp (disch:=fail) only[WA,e2,e3,e4,e5]
     exact w7 [] 0 h0 e6 rfl rfl rfl
   ·rw[h1,h2] at hun
    simp only at hun
    subst hun
    simp (disch:=first|omega|exact bd (by with_unfolding_all rfl)|(simp only[d9]<;>omega)) only[WA,Nat.reduceEqDiff,Nat.reduceLT,Int.reduceLT,↓reduceIte,reduceCtorEq,sH]
    exact jT h0 rfl
end
section
variable (w:World) (n:Nat)
end
set_option maxHeartbeats 1000000
section
variable (w:World) (n:Nat)
def ZG (b:Nat) (p:V):Prop:=p= .sc (.pointer none)∨p= .ptr b 0
theorem LM {C:D0} {st:m9} {Q:V→m9→Prop} (hC:C.E=EN w (n+2)) (b e:Nat) (p g:V) (hb:f7 st.own b=some (.box 83 e [p,g])) (hp:ZG b p) (hro:st.ro≤b)
  (hq:Q (.tup []) ⟨A8 st.own b (.box 83 e [.ptr b 0,g]),st.next,st.ro⟩):W2 C 68 [.ptr b 0] st Q:=by
 refine HI hC rfl rfl (fun _ _=>rfl) (Nat.le_of_ble_eq_true rfl) hq fun C' hC' hn=>?_
 obtain ⟨H,nx,ro⟩:=st
 have h2:(2:Nat)≤ [p,g].length:=Nat.le_refl _
 rcases hp with rfl|rfl
 ·simp (disch:=first|omega|exact bd (by with_unfolding_all rfl)|fail) only[WA,Nat.reduceEqDiff,Nat.reduceLT,↓reduceIte,reduceCtorEq,c68,hb,mS,vY]
  refine SN hC' (fun x s=>?_) ?_
  ·show PR w _ [x] s=some (x,[])
   rfl
  simp (disch:=first|omega|exact bd (by with_unfolding_all rfl)|fail) only[WA,Nat.reduceEqDiff,Nat.reduceLT,↓reduceIte,reduceCtorEq,hb,mS]
  exact .refl _ _
 ·have hs:A8 H b (.box 83 e [.ptr b 0,g])=H:=BR _ _ _ hb
  simp (disch:=first|omega|exact bd (by with_unfolding_all rfl)|fail) only[WA,Nat.reduceEqDiff,Nat.reduceLT,↓reduceIte,reduceCtorEq,c68,hb,MB,mS,vY]
  rw[hs]
  exact .refl _ _
theorem BL {C:D0} {st:m9} {Q:V→m9→Prop} (hC:C.E=EN w (n+3)) (b r:Nat) (p:V) (acc s:ByteArray) (hb:f7 st.own b=some (.box 83 1 [p,.gr 2 r acc.size])) (hr:f7 st.own r=some (.gro 5 1 false (eA acc))) (hp:ZG b p) (hro:st.ro≤b) (hro2:st.ro≤r) (hrb:r ≠ b) (hlt:b ≠ st.next)
  (hsz:acc.size+s.size≤1099511627776) (hq:Q (.tup [.sc (.int .i64 s.size),.sc .nilIface]) ⟨(st.next,.gro 5 1 false (eA (acc++s)))::A8 (I4 r st.own) b (.box 83 1 [.ptr b 0,.gr 2 st.next (acc.size+s.size)]),st.next+1,st.ro⟩):
  W2 C 44 [.ptr b 0,.sc (.string s)] st Q:=by
 refine HI hC rfl rfl (fun _ _=>rfl) (Nat.le_of_ble_eq_true rfl) hq fun C' hC' hn=>?_
 obtain ⟨H,nx,ro⟩:=st
 have h1:=zO acc
 have h2:=bH9 s
 have a1:f7 (A8 H b (.box 83 1 [.ptr b 0,.gr 2 r acc.size])) b=some (.box 83 1 [.ptr b 0,.gr 2 r acc.size]):=eL hb
 have a2:f7 (A8 H b (.box 83 1 [.ptr b 0,.gr 2 r acc.size])) r=some (.gro 5 1 false (eA acc)):=by rw[O4 _ _ _ _ _ hb,if_neg hrb];exact hr
 have hbr:¬ b=r:=fun e=>hrb e.symm
 have a3:f7 (I4 r (A8 H b (.box 83 1 [.ptr b 0,.gr 2 r acc.size]))) b=some (.box 83 1 [.ptr b 0,.gr 2 r acc.size]):=by rw[H2,if_neg hbr];exact a1
 simp (disch:=first|exact bd (by with_unfolding_all rfl)|fail) only[WA,Nat.reduceEqDiff,Nat.reduceLT,↓reduceIte,reduceCtorEq,c44]
 refine LM w n hC' b 1 p _ hb hp hro ?_
 simp (disch:=first|omega|exact bd (by with_unfolding_all rfl)|(simp only[d9]<;>omega)) only[WA,Nat.reduceEqDiff,Nat.reduceLT,↓reduceIte,reduceCtorEq,a1,a2,a3,rT,bH8,hbr,hlt,QM,J7]
 rw[qC _ _ _ _ hrb,kC]
 exact .refl _ _
theorem aX2 {C:D0} {st:m9} {Q:V→m9→Prop} (hC:C.E=EN w (n+1)) (b r:Nat) (p:V) (acc:ByteArray) (hb:f7 st.own b=some (.box 83 1 [p,.gr 2 r acc.size])) (hr:f7 st.own r=some (.gro 5 1 false (eA acc))) (hro:st.ro≤b) (hro2:st.ro≤r)
  (hsz:acc.size≤1099511627776) (hq:∀ st',st'.ro=st.ro→Q (.sc (.string acc)) st'):W2 C 46 [.ptr b 0] st Q:=by
 obtain ⟨H,nx,ro⟩:=st
 by_cases h0:acc.size=0
 ·rw[h0] at hb
  have hs:acc=ByteArray.empty:=by
   apply ByteArray.ext;apply Array.ext'
   rw[List.eq_nil_of_length_eq_zero (show acc.data.toList.length=0 by simpa using h0)]
   rfl
  refine aK8 (st':=⟨A8 H b (.box 83 1 [p,.sc (.slice none 0 0)]),nx,ro⟩) hC rfl rfl (fun _ _=>rfl) (Nat.le_of_ble_eq_true rfl) (hq ⟨A8 H b (.box 83 1 [p,.sc (.slice none 0 0)]),nx,ro⟩ rfl) (fun C' hn=>?_) fun C' hC' hn=>?_
  ·exact GM (C:=C') (st:=⟨H,nx,ro⟩) (k:=1) hb rfl aW3
  have a1:f7 (A8 H b (.box 83 1 [p,.sc (.slice none 0 0)])) b=some (.box 83 1 [p,.sc (.slice none 0 0)]):=eL hb
  rw[hs]
  simp (disch:=first|exact bd (by with_unfolding_all rfl)|fail) only[WA,i7,l7,Nat.reduceEqDiff,Nat.reduceLT,↓reduceIte,reduceCtorEq,c46,a1,aI0]
  exact .refl _ _
 ·refine HI hC rfl rfl (fun _ _=>rfl) (Nat.le_of_ble_eq_true rfl) (hq ⟨I4 r H,nx,ro⟩ rfl) fun C' hC' hn=>?_
  have hv:=aH9 ⟨H,nx,ro⟩ 5 1 r acc hr hro2 (by omega) hsz
  simp (disch:=first|omega|exact bd (by with_unfolding_all rfl)|fail) only[WA,i7,l7,Nat.reduceEqDiff,Nat.reduceLT,↓reduceIte,reduceCtorEq,c46,hb,h0,hv]
  exact .refl _ _
theorem bA6 {C:D0} {st:m9} {Q:V→m9→Prop} (hC:C.E=EN w (n+3)) (b r:Nat) (p:V) (l x:List UInt8) (hb:f7 st.own b=some (.box 83 1 [p,.gr 2 r l.length])) (hr:f7 st.own r=some (.gro 5 1 false (eA ⟨l.toArray⟩))) (hp:ZG b p) (hro:st.ro≤b) (hro2:st.ro≤r) (hrb:r ≠ b) (hlt:b ≠ st.next)
  (hsz:l.length+x.length≤1099511627776) (hq:Q (.tup [.sc (.int .i64 x.length),.sc .nilIface]) ⟨(st.next,.gro 5 1 false (eA ⟨(l++x).toArray⟩))::A8 (I4 r st.own) b (.box 83 1 [.ptr b 0,.gr 2 st.next (l.length+x.length)]),st.next+1,st.ro⟩):
  W2 C 44 [.ptr b 0,o8 x] st Q:=by
 have h1:=s8 l
 have h2:=s8 x
 have h3:(ByteArray.mk l.toArray)++(ByteArray.mk x.toArray)=⟨(l++x).toArray⟩:=by
  apply ByteArray.ext;apply Array.ext'
  rw[ByteArray.data_append,Array.toList_append]
 refine BL w n hC b r p ⟨l.toArray⟩ ⟨x.toArray⟩ (by rw[h1];exact hb) hr hp hro hro2 hrb hlt (by rw[h1,h2];exact hsz) ?_
 rw[h1,h2,h3]
 exact hq
theorem bP0 (st:m9) (b e r m:Nat) (p:V) (hb:f7 st.own b=some (.box 83 e [p,.gr 2 r m])) (hm:m≤1000000):H3 (EN w (n+1)) 45 st [.ptr b 0] (.sc (.int .i64 m)):=by
 refine aZ8 rfl rfl (fun _ _=>rfl) (Nat.le_of_ble_eq_true rfl) rfl fun C hC h0=>⟨⟨st.own,st.next,st.next⟩,?_⟩
 simp (disch:=first|exact bd (by with_unfolding_all rfl)|fail) only[WA,Nat.reduceEqDiff,Nat.reduceLT,↓reduceIte,reduceCtorEq,c45,hb]
 exact .refl _ _
end
set_option maxHeartbeats 400000
def aV5 (k:Nat) (r:Bool × List p9):List D:= [.sc (.bool r.1),.sl k r.2.length (q9 r.2)]
def W4 (k:Nat) (R:List (Bool × List p9)):List D:=R.flatMap (aV5 k)
theorem rN (k:Nat) (R:List (Bool × List p9)):(W4 k R).length=R.length*2:=by
 induction R with
 |nil=>rfl
 |cons r R ih=>
  have e:W4 k (r::R)=aV5 k r++W4 k R:=by simp[W4]
  rw[e,List.length_append,ih]
  simp only[aV5,List.length_cons,List.length_nil]
  omega
theorem EX (k:Nat) (R:List (Bool × List p9)) (j:Nat) (hj:j<R.length):E7 (W4 k R) (j*2) (some 2)=some (.agg [.sc (.bool R[j]!.1),.sl k R[j]!.2.length (q9 R[j]!.2)]):=vU (aV5 k) 2 R (fun _=>rfl) (by decide) j hj
abbrev HJ (s k:Nat) (c:GQ):V:= .agg [.sc (.int .i64 c.1),.sl s c.2.length (W4 k c.2)]
def bO4 (R:List (Bool × List p9)):Prop:=∀ r ∈ R,KA r.2∧r.2.length≤140737488351232
def U4 (acc:List UInt8) (n:Int) (R:List (Bool × List p9)):List UInt8 × Int:=if (B2 n R).2=0 then (acc++(B2 n R).1,0) else ([],(B2 n R).2)
theorem TU (acc:List UInt8) (n:Int):U4 acc n []=(acc,0):=by simp[U4,B2]
theorem NY (acc:List UInt8) (n:Int) (r:Bool × List p9) (R:List (Bool × List p9)) (h:(F6 r.1 r.2 n).2=0):U4 acc n (r::R)=U4 (acc++((F6 r.1 r.2 n).1++ [10])) (n+1) R:=by
 unfold U4
 rw[B2,if_pos h]
 by_cases h2:(B2 (n+1) R).2=0
 ·simp only[if_pos h2,if_true,List.append_assoc,List.cons_append,List.nil_append]
 ·simp only[if_neg h2]
theorem TT (acc:List UInt8) (n:Int) (r:Bool × List p9) (R:List (Bool × List p9)) (h:(F6 r.1 r.2 n).2 ≠ 0):U4 acc n (r::R)=([],(F6 r.1 r.2 n).2):=by
 unfold U4
 rw[B2,if_neg h]
 simp only[if_neg h]
theorem aL3 (c:GQ):B5 c=if W6 c=0 then (if (U4 (I5 c.1++ [10]) 1 c.2).2=0 then (if 60000<(U4 (I5 c.1++ [10]) 1 c.2).1.length then ([],4) else U4 (I5 c.1++ [10]) 1 c.2) else U4 (I5 c.1++ [10]) 1 c.2) else ([],W6 c):=by
 unfold B5 U4
 by_cases h1:W6 c=0
 ·simp only[if_pos h1]
  by_cases h2:(B2 1 c.2).2=0
  ·simp only[if_pos h2,if_true,List.append_assoc,List.cons_append,List.nil_append]
  ·simp only[if_neg h2]
 ·simp only[if_neg h1]
theorem aF9 (z:Int):I5 z++ [10]= [115,116,97,114,116,32,119,105,116,104,32]++(Lib.itoa z++ [32,115,116,105,116,99,104,101,115,46,10]):=by simp[I5]
section
variable (w:World) (n:Nat)
theorem cA1 (s k:Nat) (c:GQ) (hL:c.2.length≤140737488351232) (hK:bO4 c.2):n9 (EN w (n+7)) 43 [HJ s k c] (.sc (.int .i64 (W6 c))) ⟨[],0,0⟩:=by
 obtain ⟨z,R⟩:=c
 simp only at hL hK
 have hil:=rN k R
 unfold W6
 simp only
 by_cases h1:100<R.length
 ·rw[if_pos h1]
  refine d6 rfl rfl (fun _ _=>rfl) (Nat.le_of_ble_eq_true rfl) (i6 w) rfl fun C hC h0=>?_
  simp (disch:=first|omega|exact bd (by with_unfolding_all rfl)|fail) only[WA,Nat.reduceEqDiff,Nat.reduceLT,↓reduceIte,reduceCtorEq,c43]
  all_goals try (exfalso;omega)
  exact b8 rfl h0 rfl
 rw[if_neg h1]
 by_cases h2:z<0∨200<z
 ·rw[if_pos h2]
  refine d6 rfl rfl (fun _ _=>rfl) (Nat.le_of_ble_eq_true rfl) (i6 w) rfl fun C hC h0=>?_
  rcases h2 with h2|h2
  all_goals
   repeat' (first|(simp (disch:=first|omega|exact bd (by with_unfolding_all rfl)|fail) only[WA,Nat.reduceEqDiff,Nat.reduceLT,↓reduceIte,reduceCtorEq,c43]))
   all_goals try (exfalso;omega)
   exact b8 rfl h0 rfl
 rw[if_neg h2]
 refine d6 rfl rfl (fun _ _=>rfl) (Nat.le_of_ble_eq_true rfl) (i6 w) rfl fun C hC h0=>?_
 have hrn:C.E.rounds=F4:=by rw[hC,m7]
 simp (disch:=first|omega|exact bd (by with_unfolding_all rfl)|fail) only[WA,Nat.reduceEqDiff,Nat.reduceLT,↓reduceIte,reduceCtorEq,c43]
 all_goals try (exfalso;omega)
 refine A6 (fun m fr st=>∃ j:Nat,m=R.length - j∧j≤R.length∧EY R=EY (R.drop j)∧fr= [(19,.sl s R.length (W4 k R)),(20,.sc (.int .i64 R.length)),(21,.sc (.int .i64 j))]∧st=⟨[],0,0⟩) R.length ?_ ⟨_,_,w7 [] 0 h0 rfl rfl rfl rfl,0,by omega,Nat.zero_le _,rfl,rfl,rfl⟩ ?_
 ·rw[hrn];unfold F4;omega
 rintro m fr st ⟨j,rfl,hj,hinv,rfl,rfl⟩
 by_cases hlt:j<R.length
 ·have hRj:R.drop j=R[j]! ::R.drop (j+1):=by rw[List.drop_eq_getElem_cons hlt,getElem!_pos R j hlt]
  have hag:=EX k R j hlt
  have hm:=hK R[j]! (by rw[getElem!_pos R j hlt];exact List.getElem_mem hlt)
  have ha:=JI w n k R[j]!.2 hm.2 hm.1
  rw[hRj,EY] at hinv
  generalize R[j]! =r at*
  obtain ⟨b,L⟩:=r
  simp only at hag ha hinv
  rw[hinv]
  by_cases h3:K9 L=0
  ·rw[if_pos h3] at hinv ⊢
   rw[h3] at ha
   simp (disch:=first|omega|exact bd (by with_unfolding_all rfl)|(simp only[d9]<;>omega)) only[WA,Nat.reduceEqDiff,Nat.reduceLT,↓reduceIte,List.replicate,WE,hag]
   all_goals try (exfalso;omega)
   refine a6 (by rw[hC];exact ha.flat rfl rfl) ?_
   simp (disch:=first|omega|exact bd (by with_unfolding_all rfl)|fail) only[WA,Nat.reduceEqDiff,Nat.reduceLT,↓reduceIte]
   rw[← hinv]
   exact ⟨R.length - (j+1),_,_,by omega,w7 [] 0 h0 rfl rfl rfl rfl,j+1,rfl,by omega,hinv,rfl,rfl⟩
  ·rw[if_neg h3]
   generalize K9 L=e at*
   simp (disch:=first|omega|exact bd (by with_unfolding_all rfl)|(simp only[d9]<;>omega)) only[WA,Nat.reduceEqDiff,Nat.reduceLT,↓reduceIte,List.replicate,WE,hag]
   all_goals try (exfalso;omega)
   refine a6 (by rw[hC];exact ha.flat rfl rfl) ?_
   simp (disch:=first|exact bd (by with_unfolding_all rfl)|(simp only[d9]<;>omega)) only[WA,Nat.reduceEqDiff,Nat.reduceLT,↓reduceIte,h3]
   exact b8 rfl h0 rfl
 ·have:j=R.length:=by omega
  subst this
  rw[List.drop_length] at hinv
  rw[hinv]
  simp (disch:=first|omega|exact bd (by with_unfolding_all rfl)|fail) only[WA,Nat.reduceEqDiff,Nat.reduceLT,↓reduceIte,WE]
  all_goals try (exfalso;omega)
  exact b8 rfl h0 rfl
end
section
variable (w:World) (n:Nat)
theorem WH (s k:Nat) (c:GQ) (hL:c.2.length≤140737488351232) (hK:bO4 c.2):n9 (EN w (n+9)) 22 [HJ s k c] (.tup [o8 (B5 c).1,.sc (.int .i64 (B5 c).2)]) ⟨[],0,0⟩:=by
 have hc:=cA1 w (n+1) s k c hL hK
 rw[aL3]
 by_cases h1:W6 c=0
 case neg=>
  rw[if_neg h1]
  generalize W6 c=e at*
  refine d6 rfl rfl (fun _ _=>rfl) (Nat.le_of_ble_eq_true rfl) (i6 w) rfl fun C hC h0=>?_
  simp (disch:=first|exact bd (by with_unfolding_all rfl)|fail) only[WA,Nat.reduceEqDiff,Nat.reduceLT,↓reduceIte,reduceCtorEq,c22]
  refine a6 (by rw[hC];exact hc.flat rfl rfl) ?_
  simp (disch:=first|exact bd (by with_unfolding_all rfl)|(simp only[d9]<;>omega)) only[WA,Nat.reduceEqDiff,Nat.reduceLT,↓reduceIte,h1]
  exact b8 rfl h0 rfl
 obtain ⟨hc1,hc2,_⟩:=dF h1
 rw[h1] at hc
 rw[if_pos h1]
 clear h1
 obtain ⟨z,R⟩:=c
 simp only at hL hK hc1 hc2 ⊢
 have hil:=rN k R
 have hi:=fun st=>TP w (n+7) st z (by omega) (by omega)
 have hzl:=F9 (z:=z) (by omega) (by omega)
 have hse:=aF9 z
 have hsl:(I5 z++ [10]).length≤40:=by rw[hse];simp only[List.length_append,List.length_cons,List.length_nil];omega
 have nb:∀ a b:Nat,Nat.beq a b=false→a ≠ b:=fun a b=>Nat.ne_of_beq_eq_false
 generalize hJ:U4 (I5 z++ [10]) 1 R=J at*
 generalize hS:I5 z++ [10]=S at*
 generalize Lib.itoa z=A at*
 refine d6 rfl rfl (fun _ _=>rfl) (Nat.le_of_ble_eq_true rfl) (i6 w) (by split<;>first|(split<;>rfl)|rfl) fun C hC h0=>?_
 have hrn:C.E.rounds=F4:=by rw[hC,m7]
 simp (disch:=first|exact bd (by with_unfolding_all rfl)|fail) only[WA,Nat.reduceEqDiff,Nat.reduceLT,↓reduceIte,reduceCtorEq,c22]
 refine a6 (by rw[hC];exact hc.flat rfl rfl) ?_
 simp (disch:=first|exact bd (by with_unfolding_all rfl)|fail) only[WA,Nat.reduceEqDiff,Nat.reduceLT,Nat.reduceAdd,↓reduceIte,reduceCtorEq,List.replicate]
 all_goals try (exfalso;omega)
 have hse2:(115:UInt8)::116::97::114::116::32::119::105::116::104::32::(A++ [32,115,116,105,116,99,104,101,115,46,10])=S:=hse.symm
 refine a6 (by rw[hC];exact hi _) ?_
 simp (disch:=first|exact bd (by with_unfolding_all rfl)|(simp only[d9]<;>omega)) only[WA,Nat.reduceEqDiff,Nat.reduceLT,↓reduceIte,K2,List.append_assoc,hse2]
 all_goals try (exfalso;omega)
 refine SO (st:=⟨[(1,.box 83 1 [.sc (.pointer none),.sc (.slice none 0 0)]),(0,.box 52 1 [.sc (.int .i64 z),.sl s R.length (W4 k R)])],2,0⟩) (fun C' hn'=>pW (C:=C') (fr:= []) (l:= [.sc (.pointer none),.sc (.slice none 0 0)]) 1 83 1 1 5 1 rfl rfl (Nat.ne_of_beq_eq_false rfl)) ?_
 refine bA6 w (n+5) hC 1 2 (.sc (.pointer none)) [] S rfl rfl (.inl rfl) (Nat.zero_le _) (Nat.zero_le _) (by decide) (Nat.ne_of_beq_eq_false rfl) (by simp;omega) ?_
 simp (disch:=first|exact bd (by with_unfolding_all rfl)|fail) only[WA,Nat.reduceEqDiff,Nat.reduceLT,Nat.reduceAdd,↓reduceIte,reduceCtorEq]
 refine A6 (fun m fr st=>∃ (j:Nat) (p:V) (F:List UInt8),m=R.length - j∧j≤R.length∧ZG 0 p∧J=U4 F ((j:Int)+1) (R.drop j)∧F.length≤40+j*2101∧fr= [(5,.ptr 0 0),(22,.sl s R.length (W4 k R)),(23,.sc (.int .i64 R.length)),(24,.sc (.int .i64 j))]∧
  st=⟨[(1,.gro 5 1 false (eA ⟨F.toArray⟩)),(0,.box 83 1 [p,.gr 2 1 F.length])],2,0⟩) R.length ?_ ⟨_,_,w7 [(3,1),(1,0)] 2 h0 rfl rfl rfl rfl,0,.ptr 0 0,S,by omega,Nat.zero_le _,.inr rfl,hJ.symm,by omega,rfl,by simp;rfl⟩ ?_
 ·rw[hrn];unfold F4;omega
 rintro m fr st ⟨j,p,F,rfl,hj,hp,hinv,hF,rfl,rfl⟩
 by_cases hlt:j<R.length
 case neg=>
  have:j=R.length:=by omega
  subst this
  rw[List.drop_length,TU] at hinv
  subst hinv
  simp only[if_true]
  have hFz:=s8 F
  have hbl:=fun (st:m9) (h:f7 st.own 0=some (.box 83 1 [p,.gr 2 1 F.length]))=>bP0 w (n+7) st 0 1 1 F.length p h (by omega)
  by_cases hb:60000<F.length
  ·rw[if_pos hb]
   simp (disch:=first|omega|exact bd (by with_unfolding_all rfl)|fail) only[WA,Nat.reduceEqDiff,Nat.reduceLT,↓reduceIte,KV]
   refine a6 (by rw[hC];refine hbl _ ?_;rfl) ?_
   simp (disch:=first|omega|exact bd (by with_unfolding_all rfl)|fail) only[WA,Nat.reduceEqDiff,Nat.reduceLT,↓reduceIte]
   all_goals try (exfalso;omega)
   exact b8 rfl h0 rfl
  ·rw[if_neg hb]
   simp (disch:=first|omega|exact bd (by with_unfolding_all rfl)|fail) only[WA,Nat.reduceEqDiff,Nat.reduceLT,↓reduceIte,KV]
   refine a6 (by rw[hC];refine hbl _ ?_;rfl) ?_
   simp (disch:=first|omega|exact bd (by with_unfolding_all rfl)|fail) only[WA,Nat.reduceEqDiff,Nat.reduceLT,↓reduceIte]
   all_goals try (exfalso;omega)
   refine aX2 w (n+7) hC 0 1 p ⟨F.toArray⟩ (by rw[hFz];rfl) rfl (Nat.zero_le _) (Nat.zero_le _) (by omega) fun st' hst=>?_
   repeat' (first|(simp (disch:=fail) only[WA,i7,l7,Nat.reduceEqDiff,Nat.reduceLT,Nat.reduceAdd,Nat.reduceBEq,Int.reduceAdd,Int.reduceSub,Int.reduceLT,Int.reduceLE,Int.reduceEq,Int.reduceNeg,↓reduceIte,reduceCtorEq,List.replicate])|apply j6|((first|apply n6|apply l9|apply k8|apply n7|apply n5|apply k9)<;>intro _))
   exact b8 rfl h0 hst
 have hRj:R.drop j=R[j]! ::R.drop (j+1):=by rw[List.drop_eq_getElem_cons hlt,getElem!_pos R j hlt]
 have hag:=EX k R j hlt
 have hm:=hK R[j]! (by rw[getElem!_pos R j hlt];exact List.getElem_mem hlt)
 have hrw:=aV7 w n R[j]!.1 k R[j]!.2 ((j:Int)+1) hm.2 hm.1
 have hrl:=aV6 (b:=R[j]!.1) (L:=R[j]!.2) (n:=(j:Int)+1)
 rw[hRj] at hinv
 have e1:=NY F ((j:Int)+1) R[j]! (R.drop (j+1))
 have e2:=TT F ((j:Int)+1) R[j]! (R.drop (j+1))
 generalize hr:R[j]! =r at*
 obtain ⟨b,L⟩:=r
 simp only at hag hrw e1 e2 hrl
 by_cases h2:(F6 b L ((j:Int)+1)).2=0
 ·rw[e1 h2] at hinv
  rw[h2] at hrw
  generalize (F6 b L ((j:Int)+1)).1=T at*
  clear e1 e2 h2
  simp (disch:=first|omega|exact bd (by with_unfolding_all rfl)|(simp only[d9]<;>omega)) only[WA,Nat.reduceEqDiff,Nat.reduceLT,Nat.reduceAdd,↓reduceIte,List.replicate,KV,hag]
  all_goals try (exfalso;omega)
  refine a6 (by rw[hC];exact hrw.flat rfl rfl) ?_
  simp (disch:=first|omega|exact bd (by with_unfolding_all rfl)|(simp only[d9]<;>omega)) only[WA,Nat.reduceEqDiff,Nat.reduceLT,↓reduceIte,K2]
  all_goals try (exfalso;omega)
  refine bA6 w (n+5) hC 0 1 p F (T++ [10]) rfl rfl hp (Nat.zero_le _) (Nat.zero_le _) (by decide) (nb _ _ rfl) (by simp;omega) ?_
  simp (disch:=fail) only[WA,Nat.reduceEqDiff,Nat.reduceAdd,↓reduceIte,reduceCtorEq]
  refine ⟨R.length - (j+1),_,_,by omega,w7 [(3,1),(0,0)] 2 h0 rfl rfl rfl rfl,j+1,.ptr 0 0,F++(T++ [10]),rfl,by omega,.inr rfl,?_,?_,rfl,?_⟩
  ·rw[hinv];rfl
  ·simp only[List.length_append,List.length_cons,List.length_nil];omega
  ·simp only[List.length_append];rfl
 ·rw[e2 h2] at hinv
  subst hinv
  generalize (F6 b L ((j:Int)+1)).2=e at*
  simp only[if_neg h2]
  clear e1 e2
  simp (disch:=first|omega|exact bd (by with_unfolding_all rfl)|(simp only[d9]<;>omega)) only[WA,Nat.reduceEqDiff,Nat.reduceLT,Nat.reduceAdd,↓reduceIte,List.replicate,KV,hag]
  all_goals try (exfalso;omega)
  refine a6 (by rw[hC];exact hrw.flat rfl rfl) ?_
  simp (disch:=first|exact bd (by with_unfolding_all rfl)|(simp only[d9]<;>omega)) only[WA,Nat.reduceEqDiff,Nat.reduceLT,↓reduceIte,h2]
  exact b8 rfl h0 rfl
end
def aS5:Option GQ→V
 |none=> .tup [.agg [.sc (.int .i64 0),.sl 3 0 []],.sc (.int .i64 12)]
 |some c=> .tup [HJ 3 3 c,.sc (.int .i64 0)]
theorem J2 {C:D0} {st:m9} {b x:Value} (h0:C.w0.nx=0) (hro:st.ro=0):N0 C [(0,.tup [.agg [.sc b,.sc (.slice none 0 0)],.sc x])] st [(0,.tup [.agg [.sc b,.sl 3 0 []],.sc x])] ⟨[],0,0⟩:=
 (M2 (t:=0) (v:= .tup [.agg [.sc b,.sc (.slice none 0 0)],.sc x]) (v':= .tup [.agg [.sc b,.sl 3 0 []],.sc x]) rfl (yY (.cons (yX (.cons (.refl _) (.cons kY .nil))) (.cons (.refl _) .nil)))).trans (w7 [] 0 h0 hro rfl rfl rfl)
theorem aI4 {C:D0} {st:m9} {b x:Value} {v:V} {s n:Nat} {l:List D} (hs:y7 st.own v=some (.sl s n l)) (hrow:E4 st.ro st.own (cR v)=true) (hk:s ≠ 1∨n ≠ 0) (h0:C.w0.nx=0) (hro:st.ro=0):N0 C [(0,.tup [.agg [.sc b,v],.sc x])] st [(0,.tup [.agg [.sc b,.sl 3 n l],.sc x])] ⟨[],0,0⟩:=by
 have e1:cR (.tup [.agg [.sc b,v],.sc x])=cR v:=by simp[cR,Z5]
 have e2:y7 st.own (.tup [.agg [.sc b,v],.sc x])=some (.tup [.agg [.sc b,.sl s n l],.sc x]):=by simp[y7,I2,hs]
 refine (eG (t:=0) (v:= .tup [.agg [.sc b,v],.sc x]) rfl e2 (by rw[e1];exact hrow)).trans ?_
 refine (M2 (t:=0) (v:= .tup [.agg [.sc b,.sl s n l],.sc x]) (v':= .tup [.agg [.sc b,.sl 3 n l],.sc x]) rfl (yY (.cons (yX (.cons (.refl _) (.cons (pQ hk) .nil))) (.cons (.refl _) .nil)))).trans ?_
 exact w7 [] 0 h0 hro rfl rfl rfl
theorem yR {b x:Value} {n:Nat} {l:List D}:bH [] (.tup [.agg [.sc b,.sl 3 n l],.sc x]):=dY (by simp only[Cl,GR,and_true];exact ⟨trivial,rfl⟩)
theorem EW (nx t:Nat) (a:Value) (n:Nat) (l:List D):M4 nx t 2 1 [.bool false,.slice none 0 0] [(0,2,.agg [.sc a,.sl 3 n l])]=some (.ref nx 0 1 1,some (.row t 2 false false [.sc a,.sl 3 n l]),[]):=(rfl)
theorem zG {H:E1} {o t n:Nat} {z:Bool} {l:List D} (h:f7 H o=some (.gro t 2 z l)) (hl:l.length=n*2):y7 H (.gr 2 o n)=some (.sl 2 n l):=by
 simp only[y7,cW,h]
 rw[if_pos ⟨hl,by decide,by decide,by decide⟩]
 rfl
theorem UY (k:Nat) (R:List (Bool × List p9)) (b:Bool) (L:List p9):W4 k (R++ [(b,L)])=W4 k R++ [.sc (.bool b),.sl k L.length (q9 L)]:=by simp[W4,aV5]
theorem bG5 {s:List UInt8} {b:Bool} {L:List p9} {k:Int} (h:gR s=some (b,L,k)):KA L∧L.length≤140737488351232:=by
 have h1:=(pO (by rw[yJ h]:(F6 b L k).2=0)).2.2.2
 have h2:=(L0 h1).1
 exact ⟨nW h1,by omega⟩
section
variable (w:World) (n:Nat)
theorem bF9 (s:List UInt8) (hs:s.length≤100000):n9 (EN w (n+11)) 23 [o8 s] (aS5 (tK s)) ⟨[],0,0⟩:=by
 have hsz:=s8 s
 rw[← aS8]
 have hok:bH [] (aS5 (lV s)):=by
  rcases lV s with _|c
  ·exact yR
  ·exact yR
 have hun:lV s=if 60000<s.length then none else match C3 [pC,gQ] ((p5 10 s).headD []) with
  |none=>none
  |some (m,r)=>if r= []∧(p5 10 s).length≤102 then (match lX 1 (p5 10 s).tail.dropLast [] with
   |none=>none
   |some R=>if B5 (m.headD 0,R)=(s,0) then some (m.headD 0,R) else none) else none:=rfl
 generalize lV s=Z at*
 by_cases h1:60000<s.length
 ·rw[if_pos h1] at hun
  subst hun
  refine A1 rfl rfl (fun _ _=>rfl) (Nat.le_of_ble_eq_true rfl) (i6 w) hok rfl fun C hC h0=>?_
  simp (disch:=first|omega|exact bd (by with_unfolding_all rfl)|(simp only[d9]<;>omega)) only[WA,Nat.reduceEqDiff,Nat.reduceLT,↓reduceIte,reduceCtorEq,List.replicate,c23,hsz]
  all_goals try (exfalso;omega)
  exact J2 h0 rfl
 rw[if_neg h1] at hun
 have hsp:=ZH w (n+4) s 10 (by omega)
 have hwl:=(Go.Itp.words_len (c:=10) s.length (s:=s) (Nat.le_refl _))
 have hwn:=eH 10 s
 generalize p5 10 s=q at*
 obtain ⟨q0,qt,rfl⟩:∃ a t,q=a::t:=by
  cases q with
  |nil=>exact absurd rfl hwn
  |cons a t=>exact ⟨a,t,rfl⟩
 have hq0:=hwl.2 q0 (by simp)
 have hm:=IP w (n+3) q0 [115,116,97,114,116,32,119,105,116,104,32,35,32,115,116,105,116,99,104,101,115,46] (by omega) (by decide)
 rw[show p5 35 ([115,116,97,114,116,32,119,105,116,104,32,35,32,115,116,105,116,99,104,101,115,46]:List UInt8)= [pC,gQ] from by decide+kernel] at hm
 have hlen:=fun m r (h:C3 [pC,gQ] q0=some (m,r))=>nA (f:= [pC,gQ]) (by simp) h
 simp only[List.headD_cons,List.tail_cons] at hun
 have dl0:E7 (sD q0::List.map sD qt) 0 none=some (o8 q0):=(rfl)
 cases hM:C3 [pC,gQ] q0 with
 |none=>
  rw[hM] at hm hun
  unfold iY at hm
  simp only at hun
  subst hun
  refine A1 rfl rfl (fun _ _=>rfl) (Nat.le_of_ble_eq_true rfl) (i6 w) hok rfl fun C hC h0=>?_
  simp (disch:=first|omega|exact bd (by with_unfolding_all rfl)|fail) only[WA,Nat.reduceEqDiff,Nat.reduceLT,↓reduceIte,reduceCtorEq,List.replicate,c23,hsz]
  all_goals try (exfalso;omega)
  refine n4 (by rw[hC];exact hsp) rfl rfl (fun _=>rfl) ?_
  simp (disch:=first|omega|exact bd (by with_unfolding_all rfl)|fail) only[WA,Nat.reduceEqDiff,Nat.reduceLT,↓reduceIte,reduceCtorEq,uH,dl0,List.length_cons]
  refine n4 (by rw[hC];exact hm) rfl rfl (fun _=>rfl) ?_
  simp (disch:=first|omega|exact bd (by with_unfolding_all rfl)|(simp only[d9]<;>omega)) only[WA,Nat.reduceEqDiff,Nat.reduceLT,↓reduceIte,reduceCtorEq]
  exact J2 h0 rfl
 |some mr=>
  obtain ⟨m,r⟩:=mr
  have hl:=hlen m r hM
  rw[hM] at hm hun
  unfold iY at hm
  simp only at hun
  clear hlen hM
  obtain ⟨v,rfl⟩:∃ v,m= [v]:=by
   cases m with
   |nil=>simp at hl
   |cons a q=>cases q with
    |nil=>exact ⟨a,rfl⟩
    |cons b c=>simp at hl
  simp only[List.headD_cons] at hun
  have hemp:((⟨r.toArray⟩:ByteArray)=⟨#[]⟩)=(r= []):=X0 r []
  by_cases hr:r= []
  case neg=>
   rw[if_neg fun h=>hr h.1] at hun
   subst hun
   refine A1 rfl rfl (fun _ _=>rfl) (Nat.le_of_ble_eq_true rfl) (i6 w) hok rfl fun C hC h0=>?_
   simp (disch:=first|omega|exact bd (by with_unfolding_all rfl)|fail) only[WA,Nat.reduceEqDiff,Nat.reduceLT,↓reduceIte,reduceCtorEq,List.replicate,c23,hsz]
   all_goals try (exfalso;omega)
   refine n4 (by rw[hC];exact hsp) rfl rfl (fun _=>rfl) ?_
   simp (disch:=first|omega|exact bd (by with_unfolding_all rfl)|fail) only[WA,Nat.reduceEqDiff,Nat.reduceLT,↓reduceIte,reduceCtorEq,uH,dl0,List.length_cons]
   refine n4 (by rw[hC];exact hm) rfl rfl (fun _=>rfl) ?_
   simp (disch:=first|omega|exact bd (by with_unfolding_all rfl)|(simp only[d9]<;>omega)) only[WA,Nat.reduceEqDiff,Nat.reduceLT,↓reduceIte,reduceCtorEq,hemp,hr]
   exact J2 h0 rfl
  subst hr
  by_cases h102:(q0::qt).length≤102
  case neg=>
   rw[if_neg fun h=>h102 h.2] at hun
   subst hun
   simp only[List.length_cons] at h102
   refine A1 rfl rfl (fun _ _=>rfl) (Nat.le_of_ble_eq_true rfl) (i6 w) hok rfl fun C hC h0=>?_
   simp (disch:=first|omega|exact bd (by with_unfolding_all rfl)|fail) only[WA,Nat.reduceEqDiff,Nat.reduceLT,↓reduceIte,reduceCtorEq,List.replicate,c23,hsz]
   all_goals try (exfalso;omega)
   refine n4 (by rw[hC];exact hsp) rfl rfl (fun _=>rfl) ?_
   simp (disch:=first|omega|exact bd (by with_unfolding_all rfl)|fail) only[WA,Nat.reduceEqDiff,Nat.reduceLT,↓reduceIte,reduceCtorEq,uH,dl0,List.length_cons]
   refine n4 (by rw[hC];exact hm) rfl rfl (fun _=>rfl) ?_
   simp (disch:=first|omega|exact bd (by with_unfolding_all rfl)|(simp only[d9]<;>omega)) only[WA,Nat.reduceEqDiff,Nat.reduceLT,↓reduceIte,reduceCtorEq]
   all_goals try (exfalso;omega)
   exact J2 h0 rfl
  rw[if_pos ⟨rfl,h102⟩] at hun
  refine A1 rfl rfl (fun _ _=>rfl) (Nat.le_of_ble_eq_true rfl) (i6 w) hok rfl fun C hC h0=>?_
  have hrn:C.E.rounds=F4:=by rw[hC,m7]
  simp only[List.length_cons] at h102
  simp (disch:=first|omega|exact bd (by with_unfolding_all rfl)|fail) only[WA,Nat.reduceEqDiff,Nat.reduceLT,↓reduceIte,reduceCtorEq,List.replicate,c23,hsz]
  all_goals try (exfalso;omega)
  refine n4 (by rw[hC];exact hsp) rfl rfl (fun _=>rfl) ?_
  simp (disch:=first|omega|exact bd (by with_unfolding_all rfl)|fail) only[WA,Nat.reduceEqDiff,Nat.reduceLT,↓reduceIte,reduceCtorEq,uH,dl0,List.length_cons]
  refine n4 (by rw[hC];exact hm) rfl rfl (fun _=>rfl) ?_
  simp (disch:=first|omega|exact bd (by with_unfolding_all rfl)|(simp only[d9]<;>omega)) only[WA,Nat.reduceEqDiff,Nat.reduceLT,Nat.reduceAdd,↓reduceIte,reduceCtorEq,List.replicate,List.map_cons,List.map_nil,uH,dl1]
  all_goals try (exfalso;omega)
  obtain ⟨Q,hQ⟩:∃ Q,Q=q0::qt:=⟨_,rfl⟩
  have e1:sD q0::List.map sD qt=Q.map sD:=by rw[hQ];rfl
  have e2:qt.length+1=Q.length:=by rw[hQ];rfl
  have hmid:qt.dropLast.length=Q.length - 2:=by rw[List.length_dropLast];omega
  have hQj:∀ j,1≤j→j - 1<qt.dropLast.length→Q[j]! =qt.dropLast[j - 1]! :=fun j a b=>by
   rw[getElem!_pos qt.dropLast _ b,getElem!_pos Q j (by omega),List.getElem_dropLast]
   simp only[hQ]
   rw[List.getElem_cons,dif_neg (by omega)]
  have hQl:∀ j,j<Q.length→Q[j]!.length≤s.length:=fun j a=>hwl.2 _ (by rw[← hQ,getElem!_pos Q j a];exact List.getElem_mem a)
  rw[e1,e2]
  rw[e2] at h102
  clear e1 dl0 hsp hm hl hwl hwn hq0 hQ
  generalize qt.dropLast=mid at*
  refine A6 (fun m fr st=>∃ (j:Nat) (acc:List (Bool × List p9)),m=Q.length - j∧1≤j∧j - 1≤mid.length∧acc.length=j - 1∧bO4 acc∧lX 1 mid []=lX j (mid.drop (j - 1)) acc∧fr= [(0,o8 s),(2,.ptr 0 0),(4,.sl 3 Q.length (Q.map sD)),(8,.ptr 1 0),(9,.sc (.int .i64 j))]∧
   st=⟨[(2,.gro 36 2 false (W4 3 acc)),(1,.box 52 1 [.sc (.int .i64 v),.gr 2 2 acc.length]),(0,.box 52 1 [.sc (.int .i64 0),.sc (.slice none 0 0)])],3,0⟩) (Q.length - 1) ?_ ⟨_,_,pW 1 52 1 1 36 2 rfl rfl (Nat.ne_of_beq_eq_false rfl),1,[],by omega,Nat.le_refl _,by omega,rfl,(fun r hr=>by cases hr),rfl,rfl,rfl⟩ ?_
  ·rw[hrn];unfold F4;omega
  rintro m fr st ⟨j,acc,rfl,hj1,hj,hal,hak,hinv,rfl,rfl⟩
  have hd:=rN 3 acc
  by_cases hlt:j - 1<mid.length
  ·have hmj:mid.drop (j - 1)=mid[j - 1]! ::mid.drop (j - 1+1):=by rw[List.drop_eq_getElem_cons hlt,getElem!_pos mid _ hlt]
   have hq:=hQj j hj1 hlt
   have hxl:=hQl j (by omega)
   have hpr:=aT3 w n Q[j]! (by omega)
   rw[hmj,lX,← hq] at hinv
   generalize hX:Q[j]! =X at*
   cases hR:gR X with
   |none=>
    rw[hR] at hpr hinv
    simp only at hinv
    rw[hinv] at hun
    simp only at hun
    subst hun
    unfold OS at hpr
    simp only at hpr
    simp (disch:=first|omega|exact bd (by with_unfolding_all rfl)|fail) only[WA,Nat.reduceEqDiff,Nat.reduceLT,↓reduceIte,reduceCtorEq,vE,hX]
    all_goals try (exfalso;omega)
    refine n4 (by rw[hC];exact hpr) rfl rfl (fun _=>rfl) ?_
    simp (disch:=first|omega|exact bd (by with_unfolding_all rfl)|(simp only[d9]<;>omega)) only[WA,Nat.reduceEqDiff,Nat.reduceLT,Nat.reduceAdd,Int.reduceEq,↓reduceIte,reduceCtorEq,List.replicate]
    exact J2 h0 rfl
   |some y=>
    obtain ⟨b,L,k⟩:=y
    have hRK:=bG5 hR
    rw[hR] at hpr hinv
    simp only at hinv
    unfold OS at hpr
    simp only at hpr
    by_cases hkj:k=(j:Int)
    case neg=>
     rw[if_neg hkj] at hinv
     rw[hinv] at hun
     simp only at hun
     subst hun
     simp (disch:=first|omega|exact bd (by with_unfolding_all rfl)|fail) only[WA,Nat.reduceEqDiff,Nat.reduceLT,↓reduceIte,reduceCtorEq,vE,hX]
     all_goals try (exfalso;omega)
     refine n4 (by rw[hC];exact hpr) rfl rfl (fun _=>rfl) ?_
     simp (disch:=first|omega|exact bd (by with_unfolding_all rfl)|(simp only[d9]<;>omega)) only[WA,Nat.reduceEqDiff,Nat.reduceLT,Nat.reduceAdd,↓reduceIte,reduceCtorEq,List.replicate,hkj]
     exact J2 h0 rfl
    rw[if_pos hkj] at hinv
    subst hkj
    have hsn:=UY 3 acc b L
    generalize W4 3 acc=AD at*
    simp (disch:=first|omega|exact bd (by with_unfolding_all rfl)|fail) only[WA,Nat.reduceEqDiff,Nat.reduceLT,↓reduceIte,reduceCtorEq,vE,hX]
    all_goals try (exfalso;omega)
    refine n4 (by rw[hC];exact hpr) rfl rfl (fun _=>rfl) ?_
    simp (disch:=first|omega|exact bd (by with_unfolding_all rfl)|(simp only[d9]<;>omega)) only[WA,Nat.reduceEqDiff,Nat.reduceLT,Nat.reduceAdd,↓reduceIte,reduceCtorEq,List.replicate,EW]
    all_goals try (exfalso;omega)
    refine ⟨Q.length - (j+1),_,_,by omega,w7 [(5,2),(1,1),(0,0)] 3 h0 rfl rfl rfl rfl,j+1,acc++ [(b,L)],rfl,by omega,by omega,by simp;omega,fun r hr=>?_,?_,by rfl,?_⟩
    ·rcases List.mem_append.1 hr with hr|hr
     ·exact hak r hr
     ·rw[List.mem_singleton.1 hr];exact hRK
    ·rw[hinv,show j+1 - 1=j - 1+1 by omega];rfl
    ·rw[hsn,List.length_append];rfl
  ·have hje:j - 1=mid.length:=by omega
   rw[hje,List.drop_length,lX] at hinv
   rw[hinv] at hun
   simp only at hun
   have hch:=WH w (n+1) 2 3 (v,acc) (by simp only;omega) hak
   have hmj:((⟨(B5 (v,acc)).1.toArray⟩:ByteArray)=⟨s.toArray⟩)=((B5 (v,acc)).1=s):=X0 _ _
   have hpair:B5 (v,acc)=(s,0)↔(B5 (v,acc)).2=0∧(B5 (v,acc)).1=s:=⟨fun h=>by rw[h];exact ⟨rfl,rfl⟩,fun h=>Prod.ext h.2 h.1⟩
   have hsnap:∀ st:m9,f7 st.own 2=some (.gro 36 2 false (W4 3 acc))→I2 st.own [.agg [.sc (.int .i64 v),.gr 2 2 acc.length]]=some [HJ 2 3 (v,acc)]:=fun st h=>by
    have:=zG h hd
    simp only[I2,y7] at this ⊢
    simp[this]
   have hfin:y7 ([(2,.gro 36 2 false (W4 3 acc))]:E1) (.gr 2 2 acc.length)=some (.sl 2 acc.length (W4 3 acc)):=zG rfl hd
   by_cases he:(B5 (v,acc)).2=0
   case neg=>
    replace hun:=hun.trans (if_neg fun h=>he (hpair.1 h).1)
    subst hun
    clear hpair
    generalize (B5 (v,acc)).2=e at*
    generalize (B5 (v,acc)).1=T at*
    simp (disch:=first|omega|exact bd (by with_unfolding_all rfl)|fail) only[WA,Nat.reduceEqDiff,Nat.reduceLT,↓reduceIte,reduceCtorEq,vE]
    all_goals try (exfalso;omega)
    refine a6 (by rw[hC];exact hch.flat rfl (hsnap _ rfl)) ?_
    simp (disch:=first|omega|exact bd (by with_unfolding_all rfl)|(simp only[d9]<;>omega)) only[WA,Nat.reduceEqDiff,Nat.reduceLT,↓reduceIte,reduceCtorEq,he]
    exact J2 h0 rfl
   by_cases ht:(B5 (v,acc)).1=s
   case neg=>
    replace hun:=hun.trans (if_neg fun h=>ht (hpair.1 h).2)
    subst hun
    rw[he] at hch
    rw[eq_false ht] at hmj
    clear hpair
    generalize (B5 (v,acc)).1=T at*
    simp (disch:=first|omega|exact bd (by with_unfolding_all rfl)|fail) only[WA,Nat.reduceEqDiff,Nat.reduceLT,↓reduceIte,reduceCtorEq,vE]
    all_goals try (exfalso;omega)
    refine a6 (by rw[hC];exact hch.flat rfl (hsnap _ rfl)) ?_
    simp (disch:=first|omega|exact bd (by with_unfolding_all rfl)|(simp only[d9]<;>omega)) only[WA,Nat.reduceEqDiff,Nat.reduceLT,↓reduceIte,reduceCtorEq,hmj]
    exact J2 h0 rfl
   ·replace hun:=hun.trans (if_pos (hpair.2 ⟨he,ht⟩))
    subst hun
    rw[he,ht] at hch
    clear hpair hmj
    simp (disch:=first|omega|exact bd (by with_unfolding_all rfl)|fail) only[WA,Nat.reduceEqDiff,Nat.reduceLT,↓reduceIte,reduceCtorEq,vE]
    all_goals try (exfalso;omega)
    refine a6 (by rw[hC];exact hch.flat rfl (hsnap _ rfl)) ?_
    simp (disch:=first|exact bd (by with_unfolding_all rfl)|(simp only[d9]<;>omega)) only[WA,Nat.reduceEqDiff,Nat.reduceLT,↓reduceIte,reduceCtorEq]
    exact aI4 (s:=2) (zG rfl hd) rfl (.inl (by decide)) h0 rfl
end
set_option maxHeartbeats 4000000
abbrev xA:List UInt8:= [107,51,32,121,111,32,121,111,32,107,102,50,32,112]
abbrev xB:List UInt8:= [112,115,32,112,115,32,112,109,51,32,107,120,50,47,49]
abbrev xC:List UInt8:= [107,53]
abbrev tA:List UInt8:= [107,110,105,116,32,51,44,32,121,97,114,110,32,111,118,101,114,32,50,32,116,105,109,101,115,44,32,107,110,105,116,32,50,32,116,111,103,101,116,104,101,114,32,40,102,105,114,115,116,32,111,110,32,116,111,112,41,44,32,112,117,114,108,32,49]
abbrev tB:List UInt8:= [114,111,119,32,50,32,40,98,97,99,107,41,58,32,115,108,105,112,32,50,32,119,105,116,104,32,121,97,114,110,32,105,110,32,102,114,111,110,116,44,32,109,97,107,101,32,51,32,111,117,116,32,111,102,32,49,32,112,117,114,108,119,105,115,101,44,32,99,114,111,115,115,32,50,32,105,110,32,102,114,111,110,116,32,111,102,32,49,46]
abbrev tC:List UInt8:= [115,116,97,114,116,32,119,105,116,104,32,53,32,115,116,105,116,99,104,101,115,46,10,114,111,119,32,49,32,40,102,114,111,110,116,41,58,32,107,110,105,116,32,53,46,10]
abbrev rA:List UInt8:= [107,110,105,116,32,51,44,32,107,110,105,116,32,49]
abbrev rB:List UInt8:= [121,97,114,110,32,111,118,101,114,32,49,32,116,105,109,101,115]
theorem LJ:p7 (E6 xA).1=(tA,0)∧F6 true (E6 xB).1 2=(tB,0)∧B5 (5,[(false,(E6 xC).1)])=(tC,0)∧M5 rA=([],12)∧M5 rB=([],12):=by
 refine ⟨by decide+kernel,by decide+kernel,by decide+kernel,by decide+kernel,by decide+kernel⟩
theorem zH {H:E1} {o t:Nat} {z:Bool} {L:List p9} (h:f7 H o=some (.gro t 4 z (q9 L))):I2 H [.sl 3 L.length (q9 L),.gr 2 o L.length]=some [.sl 3 L.length (q9 L),.sl 2 L.length (q9 L)]:=by
 have:=V0 h (z6 L)
 simp only[I2,this,Option.bind_some,Option.map_some]
 rfl
theorem aL2:E6 xA=((E6 xA).1,0)∧E6 xB=((E6 xB).1,0)∧E6 xC=((E6 xC).1,0)∧(E6 xA).1 ≠ []∧(E6 xB).1 ≠ []∧(E6 xC).1 ≠ []:=by
 refine ⟨by decide+kernel,by decide+kernel,by decide+kernel,by decide+kernel,by decide+kernel,by decide+kernel⟩
section
variable (w:World) (n:Nat)
theorem aQ8 (s:List UInt8) (hs:s.length≤3000) (hne:s ≠ []) (L:List p9) (hL:E6 s=(L,0)):n9 (EN w (n+5)) 42 [o8 s] (.gr 2 0 L.length) ⟨[(0,.gro 48 4 false (q9 L))],1,0⟩:=by
 have hp:=EC w n s hs hne L hL
 have hd:=z6 L
 refine A1 rfl rfl (fun _ _=>rfl) (Nat.le_of_ble_eq_true rfl) (i6 w) (PN (by
  constructor
  ·intro h;exact List.length_eq_zero_iff.1 (by omega)
  ·intro h;rw[h] at hd;simp at hd;omega)) rfl fun C hC h0=>?_
 simp (disch:=first|exact bd (by with_unfolding_all rfl)|fail) only[WA,Nat.reduceEqDiff,Nat.reduceLT,↓reduceIte,reduceCtorEq,c42]
 refine vH (by rw[hC];exact hp) rfl rfl rfl ?_
 simp (disch:=first|exact bd (by with_unfolding_all rfl)|fail) only[WA,Nat.reduceEqDiff,Nat.reduceLT,↓reduceIte,reduceCtorEq,AW,AQ,FF,shO,Z5,cR,J7]
 exact w7 [(0,0)] 1 h0 rfl rfl rfl rfl
theorem wX (s:List UInt8) (hs:s.length≤3000) (hne:s ≠ []) (L:List p9) (hL:E6 s=(L,0)):n9 (EN w (n+5)) 42 [o8 s] (.sl 3 L.length (q9 L)) ⟨[],0,0⟩:=
 (aQ8 w n s hs hne L hL).weak (fun C h0=>rZ (s:=2) (V0 rfl (z6 L)) rfl (.inl (by decide)) h0 rfl) (fun h=>by cases h)
theorem wW (st0:m9) (s:List UInt8) (hs:s.length≤3000) (hne:s ≠ []) (L:List p9) (hL:E6 s=(L,0)) (hLn:L ≠ []):GW (EN w (n+5)) 42 st0 [o8 s] (.gr 2 st0.next L.length) (.gro 48 4 false (q9 L)):=by
 have hp:=EC w n s hs hne L hL
 have hd:=z6 L
 have hpos:=List.length_pos_iff.2 hLn
 refine aZ7 rfl rfl (fun _ _=>rfl) (Nat.le_of_ble_eq_true rfl) (by omega) (fun e=>by rw[e,List.length_nil] at hd;omega) (fun d hd=>?_) fun C hC hn=>⟨⟨(st0.next,.gro 48 4 false (q9 L))::st0.own,st0.next+1,st0.next⟩,st0.next,by simp[f7],Nat.le_refl _,?_⟩
 ·unfold q9 at hd
  simp only[List.mem_flatMap,List.mem_cons,List.not_mem_nil,or_false] at hd
  obtain ⟨x,_,rfl|rfl|rfl|rfl⟩:=hd<;>exact ⟨_,rfl⟩
 ·simp (disch:=first|exact bd (by with_unfolding_all rfl)|fail) only[WA,Nat.reduceEqDiff,Nat.reduceLT,↓reduceIte,reduceCtorEq,c42]
  refine vH (by rw[hC];exact hp) rfl rfl rfl ?_
  simp (disch:=first|exact bd (by with_unfolding_all rfl)|fail) only[WA,Nat.reduceEqDiff,Nat.reduceLT,↓reduceIte,reduceCtorEq,AW,AQ,FF,shO,Z5,cR,J7]
  exact .refl _ _
theorem EJ (s:List UInt8) (hs:s.length≤100000) (h:M5 s=([],12)):n9 (EN w (n+10)) 21 [o8 s] (.sc (.bool true)) ⟨[],0,0⟩:=by
 have hp:=yA w n s hs
 rw[h] at hp
 unfold SU at hp
 simp only at hp
 refine d6 rfl rfl (fun _ _=>rfl) (Nat.le_of_ble_eq_true rfl) (i6 w) rfl fun C hC h0=>?_
 simp (disch:=first|exact bd (by with_unfolding_all rfl)|fail) only[WA,Nat.reduceEqDiff,Nat.reduceLT,↓reduceIte,reduceCtorEq,c21]
 refine n4 (by rw[hC];exact hp) rfl rfl (fun _=>rfl) ?_
 simp (disch:=first|omega|exact bd (by with_unfolding_all rfl)|(simp only[d9]<;>omega)) only[WA,Nat.reduceEqDiff,Nat.reduceLT,↓reduceIte,reduceCtorEq]
 exact b8 rfl h0 rfl
theorem bC2:n9 (EN w (n+12)) 24 [] (.sc (.bool true)) ⟨[],0,0⟩:=by
 obtain ⟨f1,f2,f3,f4,f5⟩:=LJ
 have a1:=jB xA
 have a2:=jB xB
 have a3:=jB xC
 obtain ⟨g1,g2,g3,n1,n2,n3⟩:=aL2
 have c1:=wX w (n+6) xA (by decide) (by decide) _ g1
 have c2:=wX w (n+6) xB (by decide) (by decide) _ g2
 have c3:=wX w (n+6) xC (by decide) (by decide) _ g3
 have o1:=fun st=>wW w (n+6) st xA (by decide) (by decide) _ g1 n1
 have o2:=fun st=>wW w (n+6) st xB (by decide) (by decide) _ g2 n2
 have o3:=fun st=>wW w (n+6) st xC (by decide) (by decide) _ g3 n3
 clear g1 g2 g3
 generalize (E6 xA).1=A at*
 generalize (E6 xB).1=B at*
 generalize (E6 xC).1=D1 at*
 have l1:=(L0 a1).1
 have l2:=(L0 a2).1
 have l3:=(L0 a3).1
 have k1:=nW a1
 have k2:=nW a2
 have k3:=nW a3
 have p1:=kE w (n+4) 3 A (by omega) k1
 rw[f1] at p1
 have p2:=aV7 w (n+3) true 3 B 2 (by omega) k2
 rw[f2] at p2
 have p3:=WH w (n+2) 0 3 (5,[(false,D1)]) (Nat.le_of_ble_eq_true rfl) (fun r hr=>by rw[List.mem_singleton.1 hr];show KA D1∧D1.length≤_;exact ⟨k3,by omega⟩)
 rw[f3] at p3
 have q1:=yA w (n+2) tA (by decide)
 rw[ED f1] at q1
 have q2:=aT3 w (n+1) tB (by decide)
 rw[yH f2] at q2
 have q3:=bF9 w n tC (by decide)
 rw[PG f3] at q3
 have s1:=uF w (n+10) 3 2 A A (by omega) (by omega)
 rw[decide_eq_true rfl] at s1
 have s2:=uF w (n+10) 3 2 B B (by omega) (by omega)
 rw[decide_eq_true rfl] at s2
 have s3:=uF w (n+10) 3 2 D1 D1 (by omega) (by omega)
 rw[decide_eq_true rfl] at s3
 have r1:=EJ w (n+1) rA (by decide) f4
 have r2:=EJ w (n+1) rB (by decide) f5
 unfold SU at q1
 unfold OS at q2
 unfold aS5 at q3
 simp only at q1 q2 q3
 clear f1 f2 f3 f4 f5 a1 a2 a3 k1 k2 k3
 have dlr:E7 (W4 3 [(false,D1)]) (0*2+1) none=some (.sl 3 D1.length (q9 D1)):=(rfl)
 refine d6 rfl rfl (fun _ _=>rfl) (Nat.le_of_ble_eq_true rfl) (i6 w) rfl fun C hC h0=>?_
 simp (disch:=first|exact bd (by with_unfolding_all rfl)|fail) only[WA,Nat.reduceEqDiff,Nat.reduceLT,↓reduceIte,c24]
 refine n4 (by rw[hC];exact c1) rfl rfl (fun _=>rfl) ?_
 repeat' (first|(simp (disch:=fail) only[WA,i7,l7,Nat.reduceEqDiff,Nat.reduceLT,Nat.reduceAdd,Nat.reduceBEq,Int.reduceAdd,Int.reduceSub,Int.reduceLT,Int.reduceLE,Int.reduceEq,Int.reduceNeg,↓reduceIte,reduceCtorEq,List.replicate])|apply j6|((first|apply n6|apply l9|apply k8|apply n7|apply n5|apply k9)<;>intro _))
 refine a6 (by rw[hC];exact p1.flat rfl rfl) ?_
 simp (disch:=first|exact bd (by with_unfolding_all rfl)|(simp only[d9]<;>omega)) only[WA,Nat.reduceEqDiff,Nat.reduceLT,↓reduceIte]
 refine n4 (by rw[hC];exact c2) rfl rfl (fun _=>rfl) ?_
 simp (disch:=first|exact bd (by with_unfolding_all rfl)|(simp only[d9]<;>omega)) only[WA,Nat.reduceEqDiff,Nat.reduceLT,↓reduceIte]
 refine a6 (by rw[hC];exact p2.flat rfl rfl) ?_
 simp (disch:=first|exact bd (by with_unfolding_all rfl)|fail) only[WA,Nat.reduceEqDiff,Nat.reduceLT,↓reduceIte]
 refine n4 (by rw[hC];exact c3) rfl rfl (fun _=>rfl) ?_
 simp (disch:=first|exact bd (by with_unfolding_all rfl)|(simp only[d9]<;>omega)) only[WA,Nat.reduceEqDiff,Nat.reduceLT,↓reduceIte,EW]
 refine a6 (by rw[hC];exact p3.flat rfl rfl) ?_
 simp (disch:=first|exact bd (by with_unfolding_all rfl)|fail) only[WA,Nat.reduceEqDiff,Nat.reduceLT,↓reduceIte]
 refine n4 (by rw[hC];exact q1) rfl rfl (fun _=>rfl) ?_
 simp (disch:=first|exact bd (by with_unfolding_all rfl)|fail) only[WA,Nat.reduceEqDiff,Nat.reduceLT,↓reduceIte]
 refine n4 (by rw[hC];exact q2) rfl rfl (fun _=>rfl) ?_
 simp (disch:=first|exact bd (by with_unfolding_all rfl)|(simp only[d9]<;>omega)) only[WA,Nat.reduceEqDiff,Nat.reduceLT,Nat.reduceAdd,↓reduceIte,List.replicate]
 refine n4 (by rw[hC];exact q3) rfl rfl (fun _=>rfl) ?_
 simp (disch:=first|omega|exact bd (by with_unfolding_all rfl)|(simp only[d9]<;>omega)) only[WA,i7,l7,Nat.reduceEqDiff,Nat.reduceLT,Nat.reduceAdd,↓reduceIte,List.replicate,List.length_cons,List.length_nil]
 refine vG (by rw[hC];exact o1 _) ?_
 simp (disch:=fail) only[WA]
 refine Q6 (by rw[hC];exact s1.flat rfl (zH rfl)) ?_
 simp (disch:=first|exact bd (by with_unfolding_all rfl)|(simp only[d9]<;>omega)) only[WA,i7,l7,Nat.reduceEqDiff,Nat.reduceLT,Nat.reduceAdd,↓reduceIte]
 refine vG (by rw[hC];exact o2 _) ?_
 simp (disch:=fail) only[WA]
 refine Q6 (by rw[hC];exact s2.flat rfl (zH rfl)) ?_
 simp (disch:=first|omega|exact bd (by with_unfolding_all rfl)|(simp only[d9]<;>omega)) only[WA,i7,l7,Nat.reduceEqDiff,Nat.reduceLT,Nat.reduceAdd,↓reduceIte,uH,dlr]
 refine vG (by rw[hC];exact o3 _) ?_
 simp (disch:=fail) only[WA,uH,dlr]
 refine a6 (by rw[hC];exact s3.flat rfl (zH rfl)) ?_
 simp (disch:=first|exact bd (by with_unfolding_all rfl)|fail) only[WA,Nat.reduceEqDiff,Nat.reduceLT,↓reduceIte]
 refine a6 (by rw[hC];exact r1.flat rfl rfl) ?_
 simp (disch:=first|exact bd (by with_unfolding_all rfl)|fail) only[WA,Nat.reduceEqDiff,Nat.reduceLT,↓reduceIte,reduceCtorEq]
 refine a6 (by rw[hC];exact r2.flat rfl rfl) ?_
 repeat' (first|(simp (disch:=fail) only[WA,i7,l7,Nat.reduceEqDiff,Nat.reduceLT,Nat.reduceAdd,Nat.reduceBEq,Int.reduceAdd,Int.reduceSub,Int.reduceLT,Int.reduceLE,Int.reduceEq,Int.reduceNeg,↓reduceIte,reduceCtorEq,List.replicate])|apply j6|((first|apply n6|apply l9|apply k8|apply n7|apply n5|apply k9)<;>intro _))
 exact b8 rfl h0 rfl
end
set_option maxHeartbeats 1000000
theorem pN {L:List p9} (h:(p7 L).2=0):K9 L=0:=by
 by_cases e:K9 L=0
 ·exact e
 ·unfold p7 at h
  rw[if_neg e] at h
  exact absurd h e
set_option maxHeartbeats 8000000
theorem yT (nx:Nat):M4 nx 48 4 0 [.int .u8 0,.bool false,.int .i64 0,.int .i64 0] []=some (.ref nx 0 0 0,some (.row 48 4 false false []),[]):=(rfl)
theorem TC (d:Bool):bP8 true (.sc (.bool d)) (.sc (.bool d))=some (.sc (.bool false)):=by cases d<;>rfl
theorem LI {L M:List p9} (hL:L.all C7=true) (hM:M.all C7=true):(p7 (L++M)).2=0∨(p7 (L++M)).2=4:=by
 have ha:K9 (L++M)=0∨K9 (L++M)=4:=by
  unfold K9
  rw[List.all_append,hL,hM]
  split
  ·exact .inr rfl
  ·simp only[Bool.and_self,if_true]
   split
   ·exact .inr rfl
   ·exact .inl rfl
 unfold p7
 rcases ha with h|h
 ·rw[if_pos h]
  split
  ·exact .inr rfl
  ·exact .inl rfl
 ·rw[if_neg (by omega)]
  exact .inr h
theorem bA7 (w:World) (L:List p9) (hK:KA L) (M:List p9) (hKM:KA M) (hL:L.length≤140737488351232) (hM:M.length≤140737488351232) {C:D0} (hC:C.E=EN w 12) (h0:C.w0.nx=0):
  gC C c8.code [] (N9 0 [.sl 3 L.length (q9 L),.sl 3 M.length (q9 M)]) ⟨[],0,0⟩ (mF C c8.res (.sc (.bool true)) ⟨[],0,0⟩):=by
 have ha:=bC2 w 0
 have hg:=PO w 11 3 L hL
 have hgm:=PO w 11 3 M hM
 have t1:=kE w 5 3 L hL hK
 have t2:=kE w 5 3 M hM hKM
 have early:fD L.length=true∨fD M.length=true∨(fD L.length=false∧fD M.length=false):=by
  cases fD L.length<;>cases fD M.length<;>simp
 rcases early with h|h|⟨h,h'⟩
 ·rw[h] at hg
  repeat' (first|(simp (disch:=first|omega|assumption|exact bd (by with_unfolding_all rfl)|exact Or.inl rfl|(simp only[d9]<;>omega)|fail) only[WA,i7,l7,Nat.reduceEqDiff,Nat.reduceLT,Nat.reduceAdd,Nat.reduceBEq,Int.reduceAdd,Int.reduceSub,Int.reduceLT,Int.reduceLE,Int.reduceEq,Int.reduceNeg,↓reduceIte,reduceCtorEq,List.replicate,c8])|apply j6|((first|apply n6|apply l9|apply k8|apply n7|apply n5|apply k9)<;>intro _))
  refine a6 (by rw[hC];exact ha.flat rfl rfl) ?_
  repeat' (first|(simp (disch:=first|omega|assumption|exact bd (by with_unfolding_all rfl)|exact Or.inl rfl|(simp only[d9]<;>omega)|fail) only[WA,i7,l7,Nat.reduceEqDiff,Nat.reduceLT,Nat.reduceAdd,Nat.reduceBEq,Int.reduceAdd,Int.reduceSub,Int.reduceLT,Int.reduceLE,Int.reduceEq,Int.reduceNeg,↓reduceIte,reduceCtorEq,List.replicate])|apply j6|((first|apply n6|apply l9|apply k8|apply n7|apply n5|apply k9)<;>intro _))
  refine a6 (by rw[hC];exact hg.flat rfl rfl) ?_
  repeat' (first|(simp (disch:=first|omega|assumption|exact bd (by with_unfolding_all rfl)|exact Or.inl rfl|(simp only[d9]<;>omega)|fail) only[WA,i7,l7,Nat.reduceEqDiff,Nat.reduceLT,Nat.reduceAdd,Nat.reduceBEq,Int.reduceAdd,Int.reduceSub,Int.reduceLT,Int.reduceLE,Int.reduceEq,Int.reduceNeg,↓reduceIte,reduceCtorEq,List.replicate])|apply j6|((first|apply n6|apply l9|apply k8|apply n7|apply n5|apply k9)<;>intro _))
  exact b8 rfl h0 rfl
 ·rw[h] at hgm
  cases hgl:fD L.length with
  |true=>
   rw[hgl] at hg
   repeat' (first|(simp (disch:=first|omega|assumption|exact bd (by with_unfolding_all rfl)|exact Or.inl rfl|(simp only[d9]<;>omega)|fail) only[WA,i7,l7,Nat.reduceEqDiff,Nat.reduceLT,Nat.reduceAdd,Nat.reduceBEq,Int.reduceAdd,Int.reduceSub,Int.reduceLT,Int.reduceLE,Int.reduceEq,Int.reduceNeg,↓reduceIte,reduceCtorEq,List.replicate,c8])|apply j6|((first|apply n6|apply l9|apply k8|apply n7|apply n5|apply k9)<;>intro _))
   refine a6 (by rw[hC];exact ha.flat rfl rfl) ?_
   repeat' (first|(simp (disch:=first|omega|assumption|exact bd (by with_unfolding_all rfl)|exact Or.inl rfl|(simp only[d9]<;>omega)|fail) only[WA,i7,l7,Nat.reduceEqDiff,Nat.reduceLT,Nat.reduceAdd,Nat.reduceBEq,Int.reduceAdd,Int.reduceSub,Int.reduceLT,Int.reduceLE,Int.reduceEq,Int.reduceNeg,↓reduceIte,reduceCtorEq,List.replicate])|apply j6|((first|apply n6|apply l9|apply k8|apply n7|apply n5|apply k9)<;>intro _))
   refine a6 (by rw[hC];exact hg.flat rfl rfl) ?_
   repeat' (first|(simp (disch:=first|omega|assumption|exact bd (by with_unfolding_all rfl)|exact Or.inl rfl|(simp only[d9]<;>omega)|fail) only[WA,i7,l7,Nat.reduceEqDiff,Nat.reduceLT,Nat.reduceAdd,Nat.reduceBEq,Int.reduceAdd,Int.reduceSub,Int.reduceLT,Int.reduceLE,Int.reduceEq,Int.reduceNeg,↓reduceIte,reduceCtorEq,List.replicate])|apply j6|((first|apply n6|apply l9|apply k8|apply n7|apply n5|apply k9)<;>intro _))
   exact b8 rfl h0 rfl
  |false=>
   rw[hgl] at hg
   repeat' (first|(simp (disch:=first|omega|assumption|exact bd (by with_unfolding_all rfl)|exact Or.inl rfl|(simp only[d9]<;>omega)|fail) only[WA,i7,l7,Nat.reduceEqDiff,Nat.reduceLT,Nat.reduceAdd,Nat.reduceBEq,Int.reduceAdd,Int.reduceSub,Int.reduceLT,Int.reduceLE,Int.reduceEq,Int.reduceNeg,↓reduceIte,reduceCtorEq,List.replicate,c8])|apply j6|((first|apply n6|apply l9|apply k8|apply n7|apply n5|apply k9)<;>intro _))
   refine a6 (by rw[hC];exact ha.flat rfl rfl) ?_
   repeat' (first|(simp (disch:=first|omega|assumption|exact bd (by with_unfolding_all rfl)|exact Or.inl rfl|(simp only[d9]<;>omega)|fail) only[WA,i7,l7,Nat.reduceEqDiff,Nat.reduceLT,Nat.reduceAdd,Nat.reduceBEq,Int.reduceAdd,Int.reduceSub,Int.reduceLT,Int.reduceLE,Int.reduceEq,Int.reduceNeg,↓reduceIte,reduceCtorEq,List.replicate])|apply j6|((first|apply n6|apply l9|apply k8|apply n7|apply n5|apply k9)<;>intro _))
   refine a6 (by rw[hC];exact hg.flat rfl rfl) ?_
   repeat' (first|(simp (disch:=first|omega|assumption|exact bd (by with_unfolding_all rfl)|exact Or.inl rfl|(simp only[d9]<;>omega)|fail) only[WA,i7,l7,Nat.reduceEqDiff,Nat.reduceLT,Nat.reduceAdd,Nat.reduceBEq,Int.reduceAdd,Int.reduceSub,Int.reduceLT,Int.reduceLE,Int.reduceEq,Int.reduceNeg,↓reduceIte,reduceCtorEq,List.replicate])|apply j6|((first|apply n6|apply l9|apply k8|apply n7|apply n5|apply k9)<;>intro _))
   refine a6 (by rw[hC];exact hgm.flat rfl rfl) ?_
   repeat' (first|(simp (disch:=first|omega|assumption|exact bd (by with_unfolding_all rfl)|exact Or.inl rfl|(simp only[d9]<;>omega)|fail) only[WA,i7,l7,Nat.reduceEqDiff,Nat.reduceLT,Nat.reduceAdd,Nat.reduceBEq,Int.reduceAdd,Int.reduceSub,Int.reduceLT,Int.reduceLE,Int.reduceEq,Int.reduceNeg,↓reduceIte,reduceCtorEq,List.replicate])|apply j6|((first|apply n6|apply l9|apply k8|apply n7|apply n5|apply k9)<;>intro _))
   exact b8 rfl h0 rfl
 rw[h] at hg
 rw[h'] at hgm
 clear h h'
 by_cases hee:(p7 L).2=0∧(p7 M).2=0
 case neg=>
  have hL2:=hee
  generalize p7 L=TL at*
  generalize p7 M=TM at*
  obtain ⟨T,e⟩:=TL
  obtain ⟨U,f⟩:=TM
  simp only at t1 t2 hee
  rcases (by omega:¬ e=0∨(e=0∧¬ f=0)) with h|⟨h,h'⟩
  ·repeat' (first|(simp (disch:=first|omega|assumption|exact bd (by with_unfolding_all rfl)|exact Or.inl rfl|(simp only[d9]<;>omega)|fail) only[WA,i7,l7,Nat.reduceEqDiff,Nat.reduceLT,Nat.reduceAdd,Nat.reduceBEq,Int.reduceAdd,Int.reduceSub,Int.reduceLT,Int.reduceLE,Int.reduceEq,Int.reduceNeg,↓reduceIte,reduceCtorEq,List.replicate,c8])|apply j6|((first|apply n6|apply l9|apply k8|apply n7|apply n5|apply k9)<;>intro _))
   refine a6 (by rw[hC];exact ha.flat rfl rfl) ?_
   repeat' (first|(simp (disch:=first|omega|assumption|exact bd (by with_unfolding_all rfl)|exact Or.inl rfl|(simp only[d9]<;>omega)|fail) only[WA,i7,l7,Nat.reduceEqDiff,Nat.reduceLT,Nat.reduceAdd,Nat.reduceBEq,Int.reduceAdd,Int.reduceSub,Int.reduceLT,Int.reduceLE,Int.reduceEq,Int.reduceNeg,↓reduceIte,reduceCtorEq,List.replicate])|apply j6|((first|apply n6|apply l9|apply k8|apply n7|apply n5|apply k9)<;>intro _))
   refine a6 (by rw[hC];exact hg.flat rfl rfl) ?_
   repeat' (first|(simp (disch:=first|omega|assumption|exact bd (by with_unfolding_all rfl)|exact Or.inl rfl|(simp only[d9]<;>omega)|fail) only[WA,i7,l7,Nat.reduceEqDiff,Nat.reduceLT,Nat.reduceAdd,Nat.reduceBEq,Int.reduceAdd,Int.reduceSub,Int.reduceLT,Int.reduceLE,Int.reduceEq,Int.reduceNeg,↓reduceIte,reduceCtorEq,List.replicate])|apply j6|((first|apply n6|apply l9|apply k8|apply n7|apply n5|apply k9)<;>intro _))
   refine a6 (by rw[hC];exact hgm.flat rfl rfl) ?_
   repeat' (first|(simp (disch:=first|omega|assumption|exact bd (by with_unfolding_all rfl)|exact Or.inl rfl|(simp only[d9]<;>omega)|fail) only[WA,i7,l7,Nat.reduceEqDiff,Nat.reduceLT,Nat.reduceAdd,Nat.reduceBEq,Int.reduceAdd,Int.reduceSub,Int.reduceLT,Int.reduceLE,Int.reduceEq,Int.reduceNeg,↓reduceIte,reduceCtorEq,List.replicate])|apply j6|((first|apply n6|apply l9|apply k8|apply n7|apply n5|apply k9)<;>intro _))
   refine a6 (by rw[hC];exact t1.flat rfl rfl) ?_
   repeat' (first|(simp (disch:=first|omega|assumption|exact bd (by with_unfolding_all rfl)|exact Or.inl rfl|(simp only[d9]<;>omega)|fail) only[WA,i7,l7,Nat.reduceEqDiff,Nat.reduceLT,Nat.reduceAdd,Nat.reduceBEq,Int.reduceAdd,Int.reduceSub,Int.reduceLT,Int.reduceLE,Int.reduceEq,Int.reduceNeg,↓reduceIte,reduceCtorEq,List.replicate])|apply j6|((first|apply n6|apply l9|apply k8|apply n7|apply n5|apply k9)<;>intro _))
   refine a6 (by rw[hC];exact t2.flat rfl rfl) ?_
   repeat' (first|(simp (disch:=first|omega|assumption|exact bd (by with_unfolding_all rfl)|exact Or.inl rfl|(simp only[d9]<;>omega)|fail) only[WA,i7,l7,Nat.reduceEqDiff,Nat.reduceLT,Nat.reduceAdd,Nat.reduceBEq,Int.reduceAdd,Int.reduceSub,Int.reduceLT,Int.reduceLE,Int.reduceEq,Int.reduceNeg,↓reduceIte,reduceCtorEq,List.replicate,h])|apply j6|((first|apply n6|apply l9|apply k8|apply n7|apply n5|apply k9)<;>intro _))
   exact b8 rfl h0 rfl
  ·subst h
   repeat' (first|(simp (disch:=first|omega|assumption|exact bd (by with_unfolding_all rfl)|exact Or.inl rfl|(simp only[d9]<;>omega)|fail) only[WA,i7,l7,Nat.reduceEqDiff,Nat.reduceLT,Nat.reduceAdd,Nat.reduceBEq,Int.reduceAdd,Int.reduceSub,Int.reduceLT,Int.reduceLE,Int.reduceEq,Int.reduceNeg,↓reduceIte,reduceCtorEq,List.replicate,c8])|apply j6|((first|apply n6|apply l9|apply k8|apply n7|apply n5|apply k9)<;>intro _))
   refine a6 (by rw[hC];exact ha.flat rfl rfl) ?_
   repeat' (first|(simp (disch:=first|omega|assumption|exact bd (by with_unfolding_all rfl)|exact Or.inl rfl|(simp only[d9]<;>omega)|fail) only[WA,i7,l7,Nat.reduceEqDiff,Nat.reduceLT,Nat.reduceAdd,Nat.reduceBEq,Int.reduceAdd,Int.reduceSub,Int.reduceLT,Int.reduceLE,Int.reduceEq,Int.reduceNeg,↓reduceIte,reduceCtorEq,List.replicate])|apply j6|((first|apply n6|apply l9|apply k8|apply n7|apply n5|apply k9)<;>intro _))
   refine a6 (by rw[hC];exact hg.flat rfl rfl) ?_
   repeat' (first|(simp (disch:=first|omega|assumption|exact bd (by with_unfolding_all rfl)|exact Or.inl rfl|(simp only[d9]<;>omega)|fail) only[WA,i7,l7,Nat.reduceEqDiff,Nat.reduceLT,Nat.reduceAdd,Nat.reduceBEq,Int.reduceAdd,Int.reduceSub,Int.reduceLT,Int.reduceLE,Int.reduceEq,Int.reduceNeg,↓reduceIte,reduceCtorEq,List.replicate])|apply j6|((first|apply n6|apply l9|apply k8|apply n7|apply n5|apply k9)<;>intro _))
   refine a6 (by rw[hC];exact hgm.flat rfl rfl) ?_
   repeat' (first|(simp (disch:=first|omega|assumption|exact bd (by with_unfolding_all rfl)|exact Or.inl rfl|(simp only[d9]<;>omega)|fail) only[WA,i7,l7,Nat.reduceEqDiff,Nat.reduceLT,Nat.reduceAdd,Nat.reduceBEq,Int.reduceAdd,Int.reduceSub,Int.reduceLT,Int.reduceLE,Int.reduceEq,Int.reduceNeg,↓reduceIte,reduceCtorEq,List.replicate])|apply j6|((first|apply n6|apply l9|apply k8|apply n7|apply n5|apply k9)<;>intro _))
   refine a6 (by rw[hC];exact t1.flat rfl rfl) ?_
   repeat' (first|(simp (disch:=first|omega|assumption|exact bd (by with_unfolding_all rfl)|exact Or.inl rfl|(simp only[d9]<;>omega)|fail) only[WA,i7,l7,Nat.reduceEqDiff,Nat.reduceLT,Nat.reduceAdd,Nat.reduceBEq,Int.reduceAdd,Int.reduceSub,Int.reduceLT,Int.reduceLE,Int.reduceEq,Int.reduceNeg,↓reduceIte,reduceCtorEq,List.replicate])|apply j6|((first|apply n6|apply l9|apply k8|apply n7|apply n5|apply k9)<;>intro _))
   refine a6 (by rw[hC];exact t2.flat rfl rfl) ?_
   repeat' (first|(simp (disch:=first|omega|assumption|exact bd (by with_unfolding_all rfl)|exact Or.inl rfl|(simp only[d9]<;>omega)|fail) only[WA,i7,l7,Nat.reduceEqDiff,Nat.reduceLT,Nat.reduceAdd,Nat.reduceBEq,Int.reduceAdd,Int.reduceSub,Int.reduceLT,Int.reduceLE,Int.reduceEq,Int.reduceNeg,↓reduceIte,reduceCtorEq,List.replicate,h'])|apply j6|((first|apply n6|apply l9|apply k8|apply n7|apply n5|apply k9)<;>intro _))
   exact b8 rfl h0 rfl
 obtain ⟨he,hf⟩:=hee
 have hLl:=(L0 (pN he)).1
 have hMl:=(L0 (pN hf)).1
 have hsm:=uF w 11 3 3 L M (by omega) (by omega)
 have hKA:KA (L++M):=fun x hx=>(List.mem_append.1 hx).elim (hK x) (hKM x)
 have t3:=kE w 5 2 (L++M) (by simp;omega) hKA
 have hdL:=z6 L
 have hdM:=z6 M
 have hoL:=uG L
 have hoM:=uG M
 have hsoL:∀ H:E1,M8 H 4 (.sl 3 L.length (q9 L))=some (L.length,q9 L,[]):=fun H=>jN H 4 3 L.length (q9 L) hdL
 have hsoM:∀ H:E1,M8 H 4 (.sl 3 M.length (q9 M))=some (M.length,q9 M,[]):=fun H=>jN H 4 3 M.length (q9 M) hdM
 rw[he] at t1
 rw[hf] at t2
 have hinj:((⟨(p7 L).1.toArray⟩:ByteArray)=⟨(p7 M).1.toArray⟩)=(L=M):=by
  rw[X0]
  refine propext ⟨fun h=>vJ (Prod.ext rfl he:p7 L=((p7 L).1,0)) (Prod.ext h.symm hf),fun h=>by rw[h]⟩
 have h04:=LI (L0 (pN he)).2.1 (L0 (pN hf)).2.1
 have hTl:=mN he
 have hUl:=mN hf
 have hwords:(p7 (L++M)).2=0→L ≠ []→M ≠ []→L.getLast? ≠ M.head? →(p7 (L++M)).1=(p7 L).1++44::32::(p7 M).1:=fun h a b c=>by
  rw[(J8 h).2,(J8 he).2,(J8 hf).2]
  exact VQ a b c
 by_cases hLn:L= []
 ·subst hLn
  have hso0:∀ H:E1,M8 H 4 (.sl 3 0 [])=some (0,[],[]):=fun H=>rfl
  by_cases hMn:M= []
  ·subst hMn
   have t3:=kE w 5 0 ([]++ []) (by simp) hKA
   rw[show (p7 ([]++ [])).2=0 from he] at t3
   rw[decide_eq_true rfl] at hsm
   clear hinj hwords h04
   show gC C c8.code [] (N9 0 [.sl 3 0 [],.sl 3 0 []]) ⟨[],0,0⟩ (mF C c8.res (.sc (.bool true)) ⟨[],0,0⟩)
   generalize (p7 []).1=T at*
   repeat' (first|(simp (disch:=first|omega|assumption|exact bd (by with_unfolding_all rfl)|exact Or.inl rfl|(simp only[d9]<;>omega)|fail) only[WA,i7,l7,Nat.reduceEqDiff,Nat.reduceLT,Nat.reduceAdd,Nat.reduceBEq,Int.reduceAdd,Int.reduceSub,Int.reduceLT,Int.reduceLE,Int.reduceEq,Int.reduceNeg,↓reduceIte,reduceCtorEq,List.replicate,c8])|apply j6|((first|apply n6|apply l9|apply k8|apply n7|apply n5|apply k9)<;>intro _))
   refine a6 (by rw[hC];exact ha.flat rfl rfl) ?_
   repeat' (first|(simp (disch:=first|omega|assumption|exact bd (by with_unfolding_all rfl)|exact Or.inl rfl|(simp only[d9]<;>omega)|fail) only[WA,i7,l7,Nat.reduceEqDiff,Nat.reduceLT,Nat.reduceAdd,Nat.reduceBEq,Int.reduceAdd,Int.reduceSub,Int.reduceLT,Int.reduceLE,Int.reduceEq,Int.reduceNeg,↓reduceIte,reduceCtorEq,List.replicate])|apply j6|((first|apply n6|apply l9|apply k8|apply n7|apply n5|apply k9)<;>intro _))
   refine a6 (by rw[hC];exact hg.flat rfl rfl) ?_
   repeat' (first|(simp (disch:=first|omega|assumption|exact bd (by with_unfolding_all rfl)|exact Or.inl rfl|(simp only[d9]<;>omega)|fail) only[WA,i7,l7,Nat.reduceEqDiff,Nat.reduceLT,Nat.reduceAdd,Nat.reduceBEq,Int.reduceAdd,Int.reduceSub,Int.reduceLT,Int.reduceLE,Int.reduceEq,Int.reduceNeg,↓reduceIte,reduceCtorEq,List.replicate])|apply j6|((first|apply n6|apply l9|apply k8|apply n7|apply n5|apply k9)<;>intro _))
   refine a6 (by rw[hC];exact hgm.flat rfl rfl) ?_
   repeat' (first|(simp (disch:=first|omega|assumption|exact bd (by with_unfolding_all rfl)|exact Or.inl rfl|(simp only[d9]<;>omega)|fail) only[WA,i7,l7,Nat.reduceEqDiff,Nat.reduceLT,Nat.reduceAdd,Nat.reduceBEq,Int.reduceAdd,Int.reduceSub,Int.reduceLT,Int.reduceLE,Int.reduceEq,Int.reduceNeg,↓reduceIte,reduceCtorEq,List.replicate])|apply j6|((first|apply n6|apply l9|apply k8|apply n7|apply n5|apply k9)<;>intro _))
   refine a6 (by rw[hC];exact t1.flat rfl rfl) ?_
   repeat' (first|(simp (disch:=first|omega|assumption|exact bd (by with_unfolding_all rfl)|exact Or.inl rfl|(simp only[d9]<;>omega)|fail) only[WA,i7,l7,Nat.reduceEqDiff,Nat.reduceLT,Nat.reduceAdd,Nat.reduceBEq,Int.reduceAdd,Int.reduceSub,Int.reduceLT,Int.reduceLE,Int.reduceEq,Int.reduceNeg,↓reduceIte,reduceCtorEq,List.replicate])|apply j6|((first|apply n6|apply l9|apply k8|apply n7|apply n5|apply k9)<;>intro _))
   refine a6 (by rw[hC];exact t2.flat rfl rfl) ?_
   repeat' (first|(simp (disch:=first|omega|assumption|exact bd (by with_unfolding_all rfl)|exact Or.inl rfl|(simp only[d9]<;>omega)|fail) only[WA,i7,l7,Nat.reduceEqDiff,Nat.reduceLT,Nat.reduceAdd,Nat.reduceBEq,Int.reduceAdd,Int.reduceSub,Int.reduceLT,Int.reduceLE,Int.reduceEq,Int.reduceNeg,↓reduceIte,reduceCtorEq,List.replicate])|apply j6|((first|apply n6|apply l9|apply k8|apply n7|apply n5|apply k9)<;>intro _))
   refine a6 (by rw[hC];exact hsm.flat rfl rfl) ?_
   repeat' (first|(simp (disch:=first|omega|assumption|exact bd (by with_unfolding_all rfl)|exact Or.inl rfl|(simp only[d9]<;>omega)|fail) only[WA,i7,l7,Nat.reduceEqDiff,Nat.reduceLT,Nat.reduceAdd,Nat.reduceBEq,Int.reduceAdd,Int.reduceSub,Int.reduceLT,Int.reduceLE,Int.reduceEq,Int.reduceNeg,↓reduceIte,reduceCtorEq,List.replicate,TC,yT,hso0,hsoM,hoL,hoM,J7])|apply j6|((first|apply n6|apply l9|apply k8|apply n7|apply n5|apply k9)<;>intro _))
   all_goals try (exfalso;omega)
   refine a6 (by rw[hC];exact t3.flat rfl rfl) ?_
   repeat' (first|(simp (disch:=first|omega|assumption|exact bd (by with_unfolding_all rfl)|exact Or.inl rfl|(simp only[d9]<;>omega)|fail) only[WA,i7,l7,Nat.reduceEqDiff,Nat.reduceLT,Nat.reduceAdd,Nat.reduceBEq,Int.reduceAdd,Int.reduceSub,Int.reduceLT,Int.reduceLE,Int.reduceEq,Int.reduceNeg,↓reduceIte,reduceCtorEq,List.replicate])|apply j6|((first|apply n6|apply l9|apply k8|apply n7|apply n5|apply k9)<;>intro _))
   all_goals try (exfalso;omega)
   exact b8 rfl h0 rfl
  ·have hMp:=List.length_pos_iff.2 hMn
   have hM0:¬ M.length=0:=by omega
   have hne:¬ ([]:List p9)=M:=fun h=>hMn h.symm
   have hinj3:((⟨(p7 ([]:List p9)).1.toArray⟩:ByteArray)=⟨(p7 M).1.toArray⟩)=False:=hinj.trans (eq_false hne)
   rw[decide_eq_false hne] at hsm
   rw[List.nil_append] at t3 hwords h04 hKA
   rw[hf] at t3
   clear hinj hwords h04
   show gC C c8.code [] (N9 0 [.sl 3 0 [],.sl 3 M.length (q9 M)]) ⟨[],0,0⟩ (mF C c8.res (.sc (.bool true)) ⟨[],0,0⟩)
   generalize (p7 ([]:List p9)).1=T at*
   generalize (p7 M).1=U at*
   repeat' (first|(simp (disch:=first|omega|assumption|exact bd (by with_unfolding_all rfl)|exact Or.inl rfl|(simp only[d9]<;>omega)|fail) only[WA,i7,l7,Nat.reduceEqDiff,Nat.reduceLT,Nat.reduceAdd,Nat.reduceBEq,Int.reduceAdd,Int.reduceSub,Int.reduceLT,Int.reduceLE,Int.reduceEq,Int.reduceNeg,↓reduceIte,reduceCtorEq,List.replicate,c8])|apply j6|((first|apply n6|apply l9|apply k8|apply n7|apply n5|apply k9)<;>intro _))
   refine a6 (by rw[hC];exact ha.flat rfl rfl) ?_
   repeat' (first|(simp (disch:=first|omega|assumption|exact bd (by with_unfolding_all rfl)|exact Or.inl rfl|(simp only[d9]<;>omega)|fail) only[WA,i7,l7,Nat.reduceEqDiff,Nat.reduceLT,Nat.reduceAdd,Nat.reduceBEq,Int.reduceAdd,Int.reduceSub,Int.reduceLT,Int.reduceLE,Int.reduceEq,Int.reduceNeg,↓reduceIte,reduceCtorEq,List.replicate])|apply j6|((first|apply n6|apply l9|apply k8|apply n7|apply n5|apply k9)<;>intro _))
   refine a6 (by rw[hC];exact hg.flat rfl rfl) ?_
   repeat' (first|(simp (disch:=first|omega|assumption|exact bd (by with_unfolding_all rfl)|exact Or.inl rfl|(simp only[d9]<;>omega)|fail) only[WA,i7,l7,Nat.reduceEqDiff,Nat.reduceLT,Nat.reduceAdd,Nat.reduceBEq,Int.reduceAdd,Int.reduceSub,Int.reduceLT,Int.reduceLE,Int.reduceEq,Int.reduceNeg,↓reduceIte,reduceCtorEq,List.replicate])|apply j6|((first|apply n6|apply l9|apply k8|apply n7|apply n5|apply k9)<;>intro _))
   refine a6 (by rw[hC];exact hgm.flat rfl rfl) ?_
   repeat' (first|(simp (disch:=first|omega|assumption|exact bd (by with_unfolding_all rfl)|exact Or.inl rfl|(simp only[d9]<;>omega)|fail) only[WA,i7,l7,Nat.reduceEqDiff,Nat.reduceLT,Nat.reduceAdd,Nat.reduceBEq,Int.reduceAdd,Int.reduceSub,Int.reduceLT,Int.reduceLE,Int.reduceEq,Int.reduceNeg,↓reduceIte,reduceCtorEq,List.replicate])|apply j6|((first|apply n6|apply l9|apply k8|apply n7|apply n5|apply k9)<;>intro _))
   refine a6 (by rw[hC];exact t1.flat rfl rfl) ?_
   repeat' (first|(simp (disch:=first|omega|assumption|exact bd (by with_unfolding_all rfl)|exact Or.inl rfl|(simp only[d9]<;>omega)|fail) only[WA,i7,l7,Nat.reduceEqDiff,Nat.reduceLT,Nat.reduceAdd,Nat.reduceBEq,Int.reduceAdd,Int.reduceSub,Int.reduceLT,Int.reduceLE,Int.reduceEq,Int.reduceNeg,↓reduceIte,reduceCtorEq,List.replicate])|apply j6|((first|apply n6|apply l9|apply k8|apply n7|apply n5|apply k9)<;>intro _))
   refine a6 (by rw[hC];exact t2.flat rfl rfl) ?_
   repeat' (first|(simp (disch:=first|omega|assumption|exact bd (by with_unfolding_all rfl)|exact Or.inl rfl|(simp only[d9]<;>omega)|fail) only[WA,i7,l7,Nat.reduceEqDiff,Nat.reduceLT,Nat.reduceAdd,Nat.reduceBEq,Int.reduceAdd,Int.reduceSub,Int.reduceLT,Int.reduceLE,Int.reduceEq,Int.reduceNeg,↓reduceIte,reduceCtorEq,List.replicate])|apply j6|((first|apply n6|apply l9|apply k8|apply n7|apply n5|apply k9)<;>intro _))
   refine a6 (by rw[hC];exact hsm.flat rfl rfl) ?_
   repeat' (first|(simp (disch:=first|omega|assumption|exact bd (by with_unfolding_all rfl)|exact Or.inl rfl|(simp only[d9]<;>omega)|fail) only[WA,i7,l7,Nat.reduceEqDiff,Nat.reduceLT,Nat.reduceAdd,Nat.reduceBEq,Int.reduceAdd,Int.reduceSub,Int.reduceLT,Int.reduceLE,Int.reduceEq,Int.reduceNeg,↓reduceIte,reduceCtorEq,List.replicate,hinj3,TC,yT,hso0,hsoM,hoL,hoM,J7])|apply j6|((first|apply n6|apply l9|apply k8|apply n7|apply n5|apply k9)<;>intro _))
   all_goals try (exfalso;omega)
   have hsn:∀ st:m9,f7 st.own 1=some (.gro 48 4 false (q9 M))→I2 st.own [.gr 2 1 M.length]=some [.sl 2 M.length (q9 M)]:=fun st h=>kZ (V0 h hdM)
   refine a6 (by rw[hC];exact t3.flat rfl (hsn _ rfl)) ?_
   repeat' (first|(simp (disch:=first|omega|assumption|exact bd (by with_unfolding_all rfl)|exact Or.inl rfl|(simp only[d9]<;>omega)|fail) only[WA,i7,l7,Nat.reduceEqDiff,Nat.reduceLT,Nat.reduceAdd,Nat.reduceBEq,Int.reduceAdd,Int.reduceSub,Int.reduceLT,Int.reduceLE,Int.reduceEq,Int.reduceNeg,↓reduceIte,reduceCtorEq,List.replicate])|apply j6|((first|apply n6|apply l9|apply k8|apply n7|apply n5|apply k9)<;>intro _))
   all_goals try (exfalso;omega)
   exact b8 rfl h0 rfl
 ·have hLp:=List.length_pos_iff.2 hLn
  obtain ⟨d,hd⟩:∃ d,decide (L=M)=d:=⟨_,rfl⟩
  have hinj2:((⟨(p7 L).1.toArray⟩:ByteArray)=⟨(p7 M).1.toArray⟩)=(d=true):=hinj.trans (by rw[← hd];exact propext decide_eq_true_iff.symm)
  rw[hd] at hsm
  clear hinj hd
  have hL0:¬ L.length=0:=by omega
  have hsn:∀ st:m9,f7 st.own 2=some (.gro 48 4 false (q9 L++q9 M))→I2 st.own [.gr 2 2 (L.length+M.length)]=some [.sl 2 (L++M).length (q9 (L++M))]:=fun st h=>by
   rw[List.length_append,QJ]
   exact kZ (V0 h (by rw[List.length_append];omega))
  have hlast:(L.length:Int) - 1=((L.length - 1:Nat):Int):=by omega
  have hagL:=J1 L (L.length - 1) (by omega)
  repeat' (first|(simp (disch:=first|omega|assumption|exact bd (by with_unfolding_all rfl)|exact Or.inl rfl|(simp only[d9]<;>omega)|fail) only[WA,i7,l7,Nat.reduceEqDiff,Nat.reduceLT,Nat.reduceAdd,Nat.reduceBEq,Int.reduceAdd,Int.reduceSub,Int.reduceLT,Int.reduceLE,Int.reduceEq,Int.reduceNeg,↓reduceIte,reduceCtorEq,List.replicate,c8])|apply j6|((first|apply n6|apply l9|apply k8|apply n7|apply n5|apply k9)<;>intro _))
  refine a6 (by rw[hC];exact ha.flat rfl rfl) ?_
  repeat' (first|(simp (disch:=first|omega|assumption|exact bd (by with_unfolding_all rfl)|exact Or.inl rfl|(simp only[d9]<;>omega)|fail) only[WA,i7,l7,Nat.reduceEqDiff,Nat.reduceLT,Nat.reduceAdd,Nat.reduceBEq,Int.reduceAdd,Int.reduceSub,Int.reduceLT,Int.reduceLE,Int.reduceEq,Int.reduceNeg,↓reduceIte,reduceCtorEq,List.replicate])|apply j6|((first|apply n6|apply l9|apply k8|apply n7|apply n5|apply k9)<;>intro _))
  refine a6 (by rw[hC];exact hg.flat rfl rfl) ?_
  repeat' (first|(simp (disch:=first|omega|assumption|exact bd (by with_unfolding_all rfl)|exact Or.inl rfl|(simp only[d9]<;>omega)|fail) only[WA,i7,l7,Nat.reduceEqDiff,Nat.reduceLT,Nat.reduceAdd,Nat.reduceBEq,Int.reduceAdd,Int.reduceSub,Int.reduceLT,Int.reduceLE,Int.reduceEq,Int.reduceNeg,↓reduceIte,reduceCtorEq,List.replicate])|apply j6|((first|apply n6|apply l9|apply k8|apply n7|apply n5|apply k9)<;>intro _))
  refine a6 (by rw[hC];exact hgm.flat rfl rfl) ?_
  repeat' (first|(simp (disch:=first|omega|assumption|exact bd (by with_unfolding_all rfl)|exact Or.inl rfl|(simp only[d9]<;>omega)|fail) only[WA,i7,l7,Nat.reduceEqDiff,Nat.reduceLT,Nat.reduceAdd,Nat.reduceBEq,Int.reduceAdd,Int.reduceSub,Int.reduceLT,Int.reduceLE,Int.reduceEq,Int.reduceNeg,↓reduceIte,reduceCtorEq,List.replicate])|apply j6|((first|apply n6|apply l9|apply k8|apply n7|apply n5|apply k9)<;>intro _))
  refine a6 (by rw[hC];exact t1.flat rfl rfl) ?_
  repeat' (first|(simp (disch:=first|omega|assumption|exact bd (by with_unfolding_all rfl)|exact Or.inl rfl|(simp only[d9]<;>omega)|fail) only[WA,i7,l7,Nat.reduceEqDiff,Nat.reduceLT,Nat.reduceAdd,Nat.reduceBEq,Int.reduceAdd,Int.reduceSub,Int.reduceLT,Int.reduceLE,Int.reduceEq,Int.reduceNeg,↓reduceIte,reduceCtorEq,List.replicate])|apply j6|((first|apply n6|apply l9|apply k8|apply n7|apply n5|apply k9)<;>intro _))
  refine a6 (by rw[hC];exact t2.flat rfl rfl) ?_
  repeat' (first|(simp (disch:=first|omega|assumption|exact bd (by with_unfolding_all rfl)|exact Or.inl rfl|(simp only[d9]<;>omega)|fail) only[WA,i7,l7,Nat.reduceEqDiff,Nat.reduceLT,Nat.reduceAdd,Nat.reduceBEq,Int.reduceAdd,Int.reduceSub,Int.reduceLT,Int.reduceLE,Int.reduceEq,Int.reduceNeg,↓reduceIte,reduceCtorEq,List.replicate])|apply j6|((first|apply n6|apply l9|apply k8|apply n7|apply n5|apply k9)<;>intro _))
  refine a6 (by rw[hC];exact hsm.flat rfl rfl) ?_
  repeat' (first|(simp (disch:=first|omega|assumption|exact bd (by with_unfolding_all rfl)|exact Or.inl rfl|(simp only[d9]<;>omega)|fail) only[WA,i7,l7,Nat.reduceEqDiff,Nat.reduceLT,Nat.reduceAdd,Nat.reduceBEq,Int.reduceAdd,Int.reduceSub,Int.reduceLT,Int.reduceLE,Int.reduceEq,Int.reduceNeg,↓reduceIte,reduceCtorEq,List.replicate,hinj2,Bool.decide_eq_true,TC,yT,hsoL,hsoM,hoL,hoM,J7])|apply j6|((first|apply n6|apply l9|apply k8|apply n7|apply n5|apply k9)<;>intro _))
  all_goals try (exfalso;omega)
  refine a6 (by rw[hC];exact t3.flat rfl (hsn _ rfl)) ?_
  by_cases hg0:(p7 (L++M)).2=0
  ·rw[hg0]
   by_cases hMn:M= []
   ·subst hMn
    repeat' (first|(simp (disch:=first|omega|assumption|exact bd (by with_unfolding_all rfl)|exact Or.inl rfl|(simp only[d9]<;>omega)|fail) only[WA,i7,l7,Nat.reduceEqDiff,Nat.reduceLT,Nat.reduceAdd,Nat.reduceBEq,Int.reduceAdd,Int.reduceSub,Int.reduceLT,Int.reduceLE,Int.reduceEq,Int.reduceNeg,↓reduceIte,reduceCtorEq,List.replicate,List.length_nil])|apply j6|((first|apply n6|apply l9|apply k8|apply n7|apply n5|apply k9)<;>intro _))
    all_goals try (exfalso;omega)
    exact b8 rfl h0 rfl
   ·have hMp:=List.length_pos_iff.2 hMn
    have hM0:¬ M.length=0:=by omega
    have hagM:=J1 M 0 hMp
    have d8:L.getLast? =some L[L.length - 1]! :=by rw[List.getLast?_eq_getElem?,List.getElem?_eq_getElem (by omega),getElem!_pos L _ (by omega)]
    have hhd:M.head? =some M[0]! :=by rw[List.head?_eq_getElem?,List.getElem?_eq_getElem (by omega),getElem!_pos M _ (by omega)]
    by_cases heq:L[L.length - 1]! =M[0]!
    ·rw[heq] at hagL
     generalize M[0]! =X at*
     obtain ⟨xk,xp,xa,xb⟩:=X
     repeat' (first|(simp (disch:=first|omega|assumption|exact bd (by with_unfolding_all rfl)|exact Or.inl rfl|(simp only[d9]<;>omega)|fail) only[WA,i7,l7,Nat.reduceEqDiff,Nat.reduceLT,Nat.reduceAdd,Nat.reduceBEq,Int.reduceAdd,Int.reduceSub,Int.reduceLT,Int.reduceLE,Int.reduceEq,Int.reduceNeg,↓reduceIte,reduceCtorEq,List.replicate,hlast,uH,hagL,hagM,↓S6])|apply j6|((first|apply n6|apply l9|apply k8|apply n7|apply n5|apply k9)<;>intro _))
     all_goals try (exfalso;omega)
     exact b8 rfl h0 rfl
    ·have hw:=hwords hg0 hLn hMn (by rw[d8,hhd];exact fun h=>heq (Option.some.inj h))
     rw[hw]
     have hdd:=decide_eq_false heq
     generalize L[L.length - 1]! =Y at*
     generalize M[0]! =X at*
     obtain ⟨xk,xp,xa,xb⟩:=X
     obtain ⟨yk,yp,ya,yb⟩:=Y
     generalize (p7 L).1=T at*
     generalize (p7 M).1=U at*
     repeat' (first|(simp (disch:=first|omega|assumption|exact bd (by with_unfolding_all rfl)|exact Or.inl rfl|(simp only[d9]<;>omega)|fail) only[WA,i7,l7,Nat.reduceEqDiff,Nat.reduceLT,Nat.reduceAdd,Nat.reduceBEq,Int.reduceAdd,Int.reduceSub,Int.reduceLT,Int.reduceLE,Int.reduceEq,Int.reduceNeg,↓reduceIte,reduceCtorEq,List.replicate,hlast,uH,hagL,hagM,↓S6,hdd,K2,List.append_assoc,List.cons_append,List.nil_append])|apply j6|((first|apply n6|apply l9|apply k8|apply n7|apply n5|apply k9)<;>intro _))
     all_goals try (exfalso;omega)
     exact b8 rfl h0 rfl
  ·have h4:(p7 (L++M)).2=4:=h04.resolve_left hg0
   rw[h4]
   repeat' (first|(simp (disch:=first|omega|assumption|exact bd (by with_unfolding_all rfl)|exact Or.inl rfl|(simp only[d9]<;>omega)|fail) only[WA,i7,l7,Nat.reduceEqDiff,Nat.reduceLT,Nat.reduceAdd,Nat.reduceBEq,Int.reduceAdd,Int.reduceSub,Int.reduceLT,Int.reduceLE,Int.reduceEq,Int.reduceNeg,↓reduceIte,reduceCtorEq,List.replicate])|apply j6|((first|apply n6|apply l9|apply k8|apply n7|apply n5|apply k9)<;>intro _))
   all_goals try (exfalso;omega)
   exact b8 rfl h0 rfl
end Go.Proofs.YtimmmnanllcfoaaDoor
namespace Go.Proofs.YtimmmnanllcfoaaDoor
open Go Go.Itp
open Go.ChangeShapes Go.WideShapes Go.ChangeAt Go.RowKit
set_option linter.unusedVariables false
set_option maxRecDepth 100000
set_option maxHeartbeats 4000000
theorem aU8:reachBytes≤140737488351232:=by decide
abbrev aJ4:={x:p9 // x.kind<256}
instance:Inhabited aJ4:=⟨⟨tW,by decide⟩⟩
def VB (x:aJ4):List Value:= [.int .u8 x.1.kind,.bool x.1.purl,.int .i64 x.1.a,.int .i64 x.1.b]
theorem aL0:Tryd.prog.cellsOf 48=4:=by kernel_rfl
theorem HF:Tryd.prog.bytesOf 48=24:=by kernel_rfl
theorem WM {H:Type} {enc:TypeId × Value→H} {W:World} {held:Bool} (cs:List Value) (n:Nat) (y:DataW H × List MemPlace) (hl:cs.length=4) (h:DataW.trod enc Tryd.prog W 0 (fun _=>true) held n 48 cs=some y):∃ x:aJ4,cs=VB x:=by
 obtain ⟨m,a0,a1,a2,a3,rfl,⟨y0,h0⟩,⟨y1,h1⟩,⟨y2,h2⟩,y3,h3⟩:=aM4 Tryd.underlying48 rfl rfl rfl rfl (by kernel_rfl) (by kernel_rfl) (by kernel_rfl) (by kernel_rfl) cs n y hl h
 obtain ⟨x0,k0,_,j0⟩:=DataW.trod_int Tryd.underlying5 h0
 obtain ⟨x1,k1⟩:=aM3 Tryd.underlying4 _ _ _ h1
 obtain ⟨x2,k2,_⟩:=DataW.trod_int Tryd.underlying3 h2
 obtain ⟨x3,k3,_⟩:=DataW.trod_int Tryd.underlying3 h3
 simp only[List.cons.injEq,and_true] at k0 k2 k3
 have b0:=wf8 j0
 obtain ⟨u0,rfl⟩:=Int.eq_ofNat_of_zero_le b0.1
 exact ⟨⟨⟨u0,x1,x2,x3⟩,by simp only;omega⟩,by rw[k0,k1,k2,k3];rfl⟩
def iW:List (String × DataW Unit):= [("math/bits.deBruijn32tab",Rows.laid_math_bits_deBruijn32tab),("math/bits.deBruijn64tab",Rows.laid_math_bits_deBruijn64tab),("internal/strconv.uint64pow10",Rows.laid_internal_strconv_uint64pow10),("unicode/utf8.acceptRanges",Rows.laid_unicode_utf8_acceptRanges),("unicode/utf8.first",Rows.laid_unicode_utf8_first)]
theorem TX (os:Os) (args:Array Value):laidMetH Tryd.prog iW ((World.laidAll Tryd.prog os iW).forCall (fun _ _=>0) ⟨#[],args,[]⟩).memory:=by
 rw[MakeChecks.laidMetH_plain _ _ _ (by kernel_rfl)]
 exact laidMet_laidAll _ (by kernel_rfl) (by kernel_rfl)
theorem BC (os:Os):(World.laidAll Tryd.prog os iW).Shaped Tryd.prog:=World.shaped_of_ZipB (by kernel_rfl) (by kernel_rfl)
theorem aF8 {l:List TypeId} {t:TypeId} (hall:(l.all fun u=> !Tryd.prog.wantsStandIn u)=true) (h:t ∈ l):Tryd.prog.wantsStandIn t=false:=by
 have:=List.all_eq_true.1 hall t h
 simpa using this
theorem BK (os:Os) (started:os.Started) (H:Type) (enc:TypeId × Value→H):
  ReturnsInHanded {} Tryd.checked os 8 .any (fun w args=>(Rows.wordsApartSpec.pre enc Tryd.prog Tryd.f8 [] false w args∧laidMetH Tryd.prog iW w)∧sizedMet enc Tryd.prog Tryd.f8 (OpenSpec.ofChange Rows.wordsApartSpec) false w args)
   (Rows.wordsApartSpec.post enc Tryd.prog Tryd.f8 false true false false):=by
 refine aC6 (C:=Tryd.checked) (X:=fun w _=>laidMetH Tryd.prog iW w) (fun _ _ _ hh h=>h.of_heap hh) own started (by kernel_rfl) Tryd.func8
  (ChangeSpec.witness_shaped (enc:=enc) (C:=Tryd.checked) (os:=os) (X:=fun w _=>laidMetH Tryd.prog iW w) false (World.laidAll Tryd.prog os iW) #[.slice none 0 0,.slice none 0 0] 8 (World.laidAll_os _ _ _) (BC os) (by kernel_rfl) (by kernel_rfl) (by kernel_rfl) (TX os _)) ?_
 intro W base args ds gs before hval0 hW hsz0 hL hsh
 have hval:∀ (j:Nat) t v,Tryd.f8.params[j]? =some t→args[j]? =some v→Value.okWide Tryd.prog W .any base t v:=hval0
 have hW':=hW
 obtain ⟨p,q,hA0,hV,rfl,hfz,hnd⟩:=hW
 have hA:DataW.TrodAll enc Tryd.prog W 0 (fun _=>true) true Tryd.f8.params.toList args.toList ds p:=hA0
 have hsz:(DataW.weightsEach Tryd.prog (Tryd.f8.params.toList++Rows.wordsApartSpec.plain.varTypes Tryd.prog) (ds++gs)).all (· ≤reachBytes)=true:=hsz0
 rw[Tryd.params8] at hA hval hsz
 obtain ⟨v0,vs0,d0,ds0,p0,q0,hargs,rfl,rfl,h0,r0⟩:=trodAll_cons hA
 obtain ⟨v1,vs1,d1,ds1,p1,q1,rfl,rfl,rfl,h1,r1⟩:=trodAll_cons r0
 obtain ⟨rfl,rfl,rfl⟩:=trodAll_nil r1
 obtain rfl:args=#[v0,v1]:=by cases args;simp_all
 have hr:=aU8
 obtain ⟨m0,hm0,hli0,hlr0⟩:=tI (α:=aJ4) (g:=VB) (q:=4) (by decide) (fun a=>⟨rfl,fun c hc=>by simp[VB] at hc;rcases hc with rfl|rfl|rfl|rfl<;>rfl⟩) Tryd.underlying22 aL0 (by rw[HF];decide) (hval 0 22 v0 rfl rfl) h0 (AS (j:=0) hsz rfl rfl) (fun cs n y hl hy=>WM cs n y hl hy)
 rw[HF] at hlr0
 obtain ⟨l0,hl0,hK0,hlen0⟩:∃ l:List p9,q9 l=m0.flatMap (fun a=>(VB a).map D.sc)∧KA l∧l.length=m0.length:=⟨m0.map (·.1),by simp only[q9,List.flatMap_map];rfl,fun x hx=>by obtain ⟨a,_,rfl⟩:=List.mem_map.1 hx;exact a.2,by simp⟩
 have hv0:b7 (VN (aN W)) (.sl 3 l0.length (q9 l0)) v0:=by rw[hl0,hlen0];exact hm0
 obtain ⟨m1,hm1,hli1,hlr1⟩:=tI (α:=aJ4) (g:=VB) (q:=4) (by decide) (fun a=>⟨rfl,fun c hc=>by simp[VB] at hc;rcases hc with rfl|rfl|rfl|rfl<;>rfl⟩) Tryd.underlying22 aL0 (by rw[HF];decide) (hval 1 22 v1 rfl rfl) h1 (AS (j:=1) hsz rfl rfl) (fun cs n y hl hy=>WM cs n y hl hy)
 rw[HF] at hlr1
 obtain ⟨l1,hl1,hK1,hlen1⟩:∃ l:List p9,q9 l=m1.flatMap (fun a=>(VB a).map D.sc)∧KA l∧l.length=m1.length:=⟨m1.map (·.1),by simp only[q9,List.flatMap_map];rfl,fun x hx=>by obtain ⟨a,_,rfl⟩:=List.mem_map.1 hx;exact a.2,by simp⟩
 have hv1:b7 (VN (aN W)) (.sl 3 l1.length (q9 l1)) v1:=by rw[hl1,hlen1];exact hm1
 have hLm:laidMet Tryd.prog iW W:=by rw[← MakeChecks.laidMetH_plain _ _ _ (by kernel_rfl)];exact hL
 have hmx:BM W:=cell_of_shapedOpen_int (P:=Tryd.prog) (g:=0) (t:=3) (zero:=#[.int .i64 0]) hsh (of_decide_eq_true (by kernel_rfl)) (by kernel_rfl) rfl (by kernel_rfl) (by kernel_rfl) Tryd.underlying3
 have htab0:Lib.TabIs Tryd.prog W "internal/strconv.uint64pow10" .u64 Lib.pow10Tab:=aQ6 hLm 2 rfl (g:=1) (t:=145) (e:=135) (k:= .u64) (m:=20) (by kernel_rfl) (by kernel_rfl) Tryd.underlying145 Tryd.underlying135 (by kernel_rfl) (by kernel_rfl) rfl
 obtain ⟨s',hbody⟩:=cA9 (old:=aN W) (rounds:=F4) (fns:=fns) (prims:=PR W) (n:=12) (af:=c8) (xs:= [.sl 3 l0.length (q9 l0),.sl 3 l1.length (q9 l1)]) (xsI:= [v0,v1]) (x:= .bool true) (Nat.le_of_ble_eq_true rfl)
  (by simp only[d7];exact ⟨_,_,rfl,hv0,_,_,rfl,hv1,rfl⟩) fun C hC hn=>bA7 W l0 hK0 l1 hK1 (by omega) (by omega) hC hn
 have hfn:fns 8=some c8:=rfl
 have hrv:u6 0 (.bool true)= []:=rfl
 refine (bR2 (W:=W) ⟨htab0,hmx⟩ (f:=8) (af:=c8) hfn (xs:= [v0,v1]) (by simp only[DC,hli0,hli1];rfl) _ hbody hrv).mono fun e W' ⟨he,hbe⟩=>?_
 exact ⟨_,he,aQ7 hW' rfl rfl (by kernel_rfl) (by kernel_rfl) Tryd.underlying4 hbe⟩
theorem RU:Rows.WordsApartSaid:=
 OpenClaim.holds_of_wide 8 Tryd.f8 rfl rfl rfl rfl rfl rfl rfl ⟨rfl,rfl,rfl,rfl,rfl⟩ rfl rfl rfl rfl rfl (by kernel_rfl) Tryd.func8 (by kernel_rfl)
  (of_decide_eq_true (by kernel_rfl)) (by unfold Func.isWrapper;first|(rw[if_pos (by decide+kernel)];kernel_rfl)|(rw[if_neg (by decide+kernel)];exact ⟨rfl,rfl⟩))
  (fun os started H enc _=>BK os started H enc)
theorem wapart_holds:Rows.WordsApartCardSaid:=
 Claim7.holds_tied_plain_at .later [] [.data,.data,.data,.data,.pinned] true _ false
  RU (fun _ h=>by cases h) (by kernel_rfl) (fun _ h=>by cases h) wordsApart_row_tie rfl ⟨rfl,rfl⟩ (by kernel_rfl) rfl
  (fun f fn hf hfn=>by
   obtain rfl:f=8:=Option.some.inj ((show Tryd.prog.funcNamed "raddle/raddlelaw41.WordsApart"=some 8 by kernel_rfl).symm.trans hf)|>.symm
   obtain rfl:fn=Tryd.f8:=(Option.some.inj (Tryd.func8.symm.trans hfn)).symm
   exact ⟨by kernel_rfl,fun j t ht=>aF8 (l:= [22,22]) (by kernel_rfl) (by rw[Tryd.params8] at ht;simpa using Array.mem_of_getElem? ht)⟩)
  (by kernel_rfl)
#print axioms wapart_holds
end Go.Proofs.YtimmmnanllcfoaaDoor
