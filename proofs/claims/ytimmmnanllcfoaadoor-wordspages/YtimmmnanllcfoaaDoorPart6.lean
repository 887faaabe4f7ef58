/- What is proved: the law WordsPages returns true for every input. Conditions: none beyond the card's own.
   Texts: Q41k, Q41l, Q41m, Q41n, Q41o, P41g, P41h, P41i, Q42g, Q42h, Q42i, Q41p, Q41q, Q41r, Q41u, Q41v, Q41w, Q42c, Q42d, Q42e, Q42f, Q42j, Q42k, Q42t, Q42u, Q42v, Q42w.
-/
import Derived.Test.YtimmmnanllcfoaaDoorPart5
import Derived.Test.YtimmmnanllcfoaaDoorCards
import Derived.Test.YtimmmnanllcfoaaDoorTie
import Derived.SizedLaws
import Derived.ChangeAt
import Derived.SevenTiedAt
import Derived.Stop.Joined
import Derived.Lay
namespace Go.Proofs.YtimmmnanllcfoaaDoor
open Go Go.Itp
set_option maxRecDepth 100000
set_option maxHeartbeats 400000
set_option linter.unusedSimpArgs false
set_option linter.unusedVariables false
abbrev TP (p:List n8 × Int):V:= .tup [.sl 3 p.1.length (r8 p.1),.sc (.int .i64 p.2)]
theorem O7 (nx t:Nat) (a b c d:Value):N7 nx t 4 1 [.int .u8 0,.bool false,.int .i64 0,.int .i64 0] [(0,4,.agg [.sc a,.sc b,.sc c,.sc d])]=some (.ref nx 0 1 1,some (.row t 4 false false [.sc a,.sc b,.sc c,.sc d]),[]):=(rfl)
theorem cG {H:E4} {o t n:Nat} {z:Bool} {l:List D} (h:f8 H o=some (.gro t 4 z l)) (hl:l.length=n*4):x7 H (.gr 2 o n)=some (.sl 2 n l):=by
 simp only[x7,cY,h]
 rw[if_pos ⟨hl,by decide,by decide,by decide⟩]
 rfl
theorem FQ {H:E4} {v v':V} (h:x7 H v=some v'):J7 H [v]=some [v']:=by simp only[J7,h,Option.bind_some,Option.map_some]
theorem aZ5 (A B:List n8):r8 (A++B)=r8 A++r8 B:=by simp[r8]
theorem GA (A:List n8) (x:n8):r8 (A++ [x])=r8 A++ [.sc (.int .u8 x.kind),.sc (.bool x.purl),.sc (.int .i64 x.a),.sc (.int .i64 x.b)]:=by simp[r8]
theorem aC6 (a b:Go.Itp.Obj):∀ o ob,f8 ([(0,a),(1,b)]:E4) o=some ob→f8 ([(1,b),(0,a)]:E4) o=some ob:=by
 intro o ob
 rcases (by omega:o=0∨o=1∨2≤o) with rfl|rfl|h
 ·exact id
 ·exact id
 ·intro e
  rw[k7,if_neg (by omega),k7,if_neg (by omega)] at e
  cases e
section
variable (w:World) (n:Nat)
theorem aV4 {C:C5} (hC:C.E=EN w (n+8)) (h0:C.w0.nx=0) (s:List UInt8) (q:List (List UInt8)) (np k:Int) (acc:List n8) (x:n8) (m:Nat) (hm:acc.length+m≤200) {K:List KF} {P:A8}
  (hgo:gK C K (.exit 2) [(0,m8 s),(4,.gr 2 0 (acc++List.replicate m x).length),(7,.ptr 1 0),(16,.sl 3 q.length (q.map sD)),(17,.sc (.int .i64 np)),(18,.sc (.int .i64 k)),(37,.sc (.int .i64 m)),(38,.sc (.int .i64 m)),(39,.sc (.bool false))] ⟨[(0,.gro 48 4 false (r8 (acc++List.replicate m x))),(1,cN x)],2,0⟩ P):
  gL C [0,4,7,16,17,18,37,38] WU K [(0,m8 s),(4,.gr 2 0 acc.length),(7,.ptr 1 0),(16,.sl 3 q.length (q.map sD)),(17,.sc (.int .i64 np)),(18,.sc (.int .i64 k)),(37,.sc (.int .i64 m)),(38,.sc (.int .i64 0))] ⟨[(1,cN x),(0,.gro 48 4 false (r8 acc))],2,0⟩ P:=by
 have hrn:C.E.rounds=C6:=by rw[hC,k8]
 refine y6 (fun mm fr st=>∃ i:Nat,mm=m - i∧i≤m∧fr= [(0,m8 s),(4,.gr 2 0 (acc++List.replicate i x).length),(7,.ptr 1 0),(16,.sl 3 q.length (q.map sD)),(17,.sc (.int .i64 np)),(18,.sc (.int .i64 k)),(37,.sc (.int .i64 m)),(38,.sc (.int .i64 i))]∧st=⟨[(0,.gro 48 4 false (r8 (acc++List.replicate i x))),(1,cN x)],2,0⟩) m ?_ ⟨_,_,aK6 (aC6 _ _),0,by omega,Nat.zero_le _,by simp,by simp⟩ ?_
 ·rw[hrn];unfold C6;omega
 rintro mm fr st ⟨i,rfl,hi,rfl,rfl⟩
 by_cases hlt:i<m
 ·have hsn:=GA (acc++List.replicate i x) x
  have hl:(acc++List.replicate i x).length=acc.length+i:=by simp
  have hd:=z7 (acc++List.replicate i x)
  have hrs:acc++List.replicate (i+1) x=acc++List.replicate i x++ [x]:=by rw[List.replicate_succ'];simp
  rw[hl] at hd ⊢
  generalize acc++List.replicate i x=A at*
  generalize r8 A=AD at*
  obtain ⟨xk,xp,xa,xb⟩:=x
  simp (disch:=first|omega|exact bd (by with_unfolding_all rfl)|(simp only[d6]<;>omega)) only[WA,Nat.reduceEqDiff,Nat.reduceLT,Nat.reduceAdd,↓reduceIte,reduceCtorEq,WU,O7]
  all_goals try (exfalso;omega)
  refine ⟨m - (i+1),_,_,by omega,s9 [(3,0),(1,1)] 2 h0 rfl rfl rfl rfl,i+1,rfl,by omega,?_,?_⟩
  ·rw[hrs,List.length_append,hl];rfl
  ·rw[hrs,hsn];rfl
 ·have:i=m:=by omega
  subst this
  generalize r8 (acc++List.replicate i x)=AD at*
  generalize (acc++List.replicate i x).length=al at*
  simp (disch:=first|omega|exact bd (by with_unfolding_all rfl)|fail) only[WA,Nat.reduceEqDiff,Nat.reduceLT,↓reduceIte,reduceCtorEq,WU]
  exact hgo
theorem JK (s:List UInt8):M5 s=if 2000<s.length then (([]:List n8),(12:Int)) else if s=L5 then (([]:List n8),(0:Int)) else match rS (s6 s) [] with
  |none=>(([]:List n8),(12:Int))
  |some L=>if L2 L=0∧A6 L=s then (L,(0:Int)) else (([]:List n8),(12:Int)):=by
 unfold M5 cV
 by_cases h1:2000<s.length
 ·simp only[if_pos h1]
 simp only[if_neg h1]
 by_cases h2:s=L5
 ·simp only[if_pos h2]
 simp only[if_neg h2]
 cases rS (s6 s) [] with
 |none=>rfl
 |some L=>
  by_cases h3:L2 L=0∧A6 L=s
  ·simp only[if_pos h3]
  ·simp only[if_neg h3]
theorem yH (s:List UInt8) (hs:s.length≤100000):m6 (EN w (n+9)) 12 [m8 s] (TP (M5 s)) ⟨[],0,0⟩:=by
 have hsz:=p8 s
 rw[JK]
 by_cases h1:2000<s.length
 ·rw[if_pos h1]
  refine y9 rfl rfl (fun _ _=>rfl) (Nat.le_of_ble_eq_true rfl) (g9 w) F7 rfl fun C hC h0=>?_
  simp (disch:=first|omega|exact bd (by with_unfolding_all rfl)|fail) only[WA,Nat.reduceEqDiff,Nat.reduceLT,↓reduceIte,reduceCtorEq,c12,hsz]
  all_goals try (exfalso;omega)
  exact K6 h0 rfl
 rw[if_neg h1]
 have hnt:((⟨s.toArray⟩:ByteArray)=⟨#[110,111,116,104,105,110,103]⟩)=(s=L5):=aH s L5
 by_cases h2:s=L5
 ·rw[if_pos h2]
  refine y9 rfl rfl (fun _ _=>rfl) (Nat.le_of_ble_eq_true rfl) (g9 w) F7 rfl fun C hC h0=>?_
  rw[eq_true h2] at hnt
  have hl7:s.length≤2000:=by omega
  simp (disch:=first|omega|exact bd (by with_unfolding_all rfl)|(simp only[d6]<;>omega)) only[WA,Nat.reduceEqDiff,Nat.reduceLT,↓reduceIte,reduceCtorEq,c12,hsz,hnt]
  all_goals try (exfalso;omega)
  exact K6 h0 rfl
 rw[if_neg h2]
 have hsp:=aZ3 w (n+2) s (by omega)
 have hsl:=fW s
 have hsm:=nL s
 have hsn:=sA s
 generalize s6 s=q at*
 refine y9 rfl rfl (fun _ _=>rfl) (Nat.le_of_ble_eq_true rfl) (g9 w) (by
  cases rS q [] with
  |none=>exact F7
  |some L=>simp only;split<;>exact F7) rfl fun C hC h0=>?_
 have hrn:C.E.rounds=C6:=by rw[hC,k8]
 simp (disch:=first|omega|exact bd (by with_unfolding_all rfl)|fail) only[WA,Nat.reduceEqDiff,Nat.reduceLT,↓reduceIte,reduceCtorEq,c12,hsz,hnt,h2]
 all_goals try (exfalso;omega)
 refine l5 (by rw[hC];exact hsp) rfl rfl (fun _=>rfl) ?_
 simp (disch:=first|exact bd (by with_unfolding_all rfl)|fail) only[WA,Nat.reduceEqDiff,Nat.reduceLT,↓reduceIte,reduceCtorEq]
 refine y6 (fun m fr st=>∃ (k:Nat) (acc:List n8),m=q.length - k∧k≤q.length∧acc.length≤200∧(∀ x ∈ acc,F8 x)∧rS q []=rS (q.drop k) acc∧fr= [(0,m8 s),(4,.gr 2 0 acc.length),(16,.sl 3 q.length (q.map sD)),(17,.sc (.int .i64 q.length)),(18,.sc (.int .i64 k))]∧st=⟨[(0,.gro 48 4 false (r8 acc))],1,0⟩) q.length ?_ ⟨_,_,P0 4 48 4 rfl,0,[],by omega,Nat.zero_le _,Nat.zero_le _,(fun x hx=>by cases hx),rfl,rfl,rfl⟩ ?_
 ·rw[hrn];unfold C6;omega
 rintro m fr st ⟨k,acc,rfl,hk,hal,hap,hraw,rfl,rfl⟩
 by_cases hlt:k<q.length
 ·have hqk:q.drop k=q[k]! ::q.drop (k+1):=by rw[List.drop_eq_getElem_cons hlt,getElem!_pos q k hlt]
  have hpl:=hsm q[k]! (by rw[getElem!_pos q k hlt];exact List.getElem_mem hlt)
  have hrd:=bW2 w n q[k]! (by omega)
  rw[hqk,rS] at hraw
  generalize hp:q[k]! =p at*
  cases hr:dY p with
  |none=>
   rw[hr] at hrd hraw
   rw[hraw]
   unfold aX5 at hrd
   simp (disch:=first|omega|exact bd (by with_unfolding_all rfl)|fail) only[WA,Nat.reduceEqDiff,Nat.reduceLT,↓reduceIte,reduceCtorEq,vJ,hp]
   all_goals try (exfalso;omega)
   refine a6 (by rw[hC];exact hrd.flat rfl rfl) ?_
   simp (disch:=first|exact bd (by with_unfolding_all rfl)|(simp only[d6]<;>omega)) only[WA,Nat.reduceEqDiff,Nat.reduceLT,Nat.reduceAdd,↓reduceIte,reduceCtorEq,List.replicate]
   exact K6 h0 rfl
  |some xm=>
   obtain ⟨x,z⟩:=xm
   obtain ⟨hx,hz,hps⟩:=yR hr
   rw[hr] at hrd hraw
   simp only at hraw
   unfold aX5 at hrd
   obtain ⟨m,rfl⟩:=Int.eq_ofNat_of_zero_le (show 0≤z by omega)
   by_cases hgt:200<(acc.length:Int)+(m:Int)
   ·rw[if_pos hgt] at hraw
    rw[hraw]
    obtain ⟨xk,xp,xa,xb⟩:=x
    simp (disch:=first|omega|exact bd (by with_unfolding_all rfl)|fail) only[WA,Nat.reduceEqDiff,Nat.reduceLT,↓reduceIte,reduceCtorEq,vJ,hp]
    all_goals try (exfalso;omega)
    refine a6 (by rw[hC];exact hrd.flat rfl rfl) ?_
    simp (disch:=first|omega|exact bd (by with_unfolding_all rfl)|(simp only[d6]<;>omega)) only[WA,Nat.reduceEqDiff,Nat.reduceLT,Nat.reduceAdd,↓reduceIte,reduceCtorEq,List.replicate]
    all_goals try (exfalso;omega)
    exact K6 h0 rfl
   ·rw[if_neg hgt,Int.toNat_natCast] at hraw
    have hin:=fun K P hg=>aV4 w n hC h0 s q q.length k acc x m (by omega) (K:=K) (P:=P) hg
    obtain ⟨xk,xp,xa,xb⟩:=x
    simp (disch:=first|omega|exact bd (by with_unfolding_all rfl)|fail) only[WA,Nat.reduceEqDiff,Nat.reduceLT,↓reduceIte,reduceCtorEq,vJ,hp]
    all_goals try (exfalso;omega)
    refine a6 (by rw[hC];exact hrd.flat rfl rfl) ?_
    simp (disch:=first|omega|exact bd (by with_unfolding_all rfl)|(simp only[d6]<;>omega)) only[WA,Nat.reduceEqDiff,Nat.reduceLT,Nat.reduceAdd,↓reduceIte,reduceCtorEq,List.replicate]
    all_goals try (exfalso;omega)
    refine hin _ _ ?_
    generalize hA:acc++List.replicate m ⟨xk,xp,xa,xb⟩=A at*
    have hAl:A.length≤200:=by rw[← hA];simp;omega
    have hAp:∀ y ∈ A,F8 y:=fun y hy=>by
     rw[← hA] at hy
     rcases List.mem_append.1 hy with hy|hy
     ·exact hap y hy
     ·rw[List.eq_of_mem_replicate hy];exact hx
    simp (disch:=first|omega|exact bd (by with_unfolding_all rfl)|fail) only[WA,Nat.reduceEqDiff,Nat.reduceLT,↓reduceIte,reduceCtorEq]
    exact ⟨q.length - (k+1),_,_,by omega,s9 [(0,0)] 1 h0 rfl rfl rfl rfl,k+1,A,rfl,by omega,hAl,hAp,hraw,rfl,rfl⟩
 ·have:k=q.length:=by omega
  subst this
  rw[List.drop_length,rS] at hraw
  rw[hraw]
  simp only
  have hd:=z7 acc
  have ha:=JV w (n+2) 2 acc (by omega) fun y hy=>by have:=(hap y hy).bounds;omega
  have hwr:=fun hok=>aB9 w (n+4) 2 acc hal hok
  have hok0:=fun h:L2 acc=0=>(T7 h).2.1
  have h1:∀ st:l8,f8 st.own 0=some (.gro 48 4 false (r8 acc))→J7 st.own [.gr 2 0 acc.length]=some [.sl 2 acc.length (r8 acc)]:=fun st h=>FQ (cG h hd)
  have hfin:x7 ([(0,.gro 48 4 false (r8 acc))]:E4) (.gr 2 0 acc.length)=some (.sl 2 acc.length (r8 acc)):=cG rfl hd
  by_cases h3:L2 acc=0
  ·have hwr:=hwr (hok0 h3)
   rw[h3] at ha
   have hmj:((⟨(A6 acc).toArray⟩:ByteArray)=⟨s.toArray⟩)=(A6 acc=s):=aH _ _
   by_cases h4:A6 acc=s
   ·rw[if_pos ⟨h3,h4⟩]
    rw[h4] at hwr
    simp (disch:=first|omega|exact bd (by with_unfolding_all rfl)|fail) only[WA,Nat.reduceEqDiff,Nat.reduceLT,↓reduceIte,reduceCtorEq,vJ]
    all_goals try (exfalso;omega)
    refine a6 (by rw[hC];exact ha.flat rfl (h1 _ rfl)) ?_
    simp (disch:=first|exact bd (by with_unfolding_all rfl)|fail) only[WA,Nat.reduceEqDiff,Nat.reduceLT,↓reduceIte,reduceCtorEq]
    refine a6 (by rw[hC];exact hwr.flat rfl (h1 _ rfl)) ?_
    simp (disch:=first|exact bd (by with_unfolding_all rfl)|fail) only[WA,Nat.reduceEqDiff,Nat.reduceLT,↓reduceIte,reduceCtorEq]
    exact R8 (s:=2) (n:=acc.length) (l:=r8 acc) hfin rfl (.inl (by decide)) h0 rfl
   ·rw[if_neg fun h=>h4 h.2]
    rw[eq_false h4] at hmj
    generalize A6 acc=W at*
    simp (disch:=first|omega|exact bd (by with_unfolding_all rfl)|fail) only[WA,Nat.reduceEqDiff,Nat.reduceLT,↓reduceIte,reduceCtorEq,vJ]
    all_goals try (exfalso;omega)
    refine a6 (by rw[hC];exact ha.flat rfl (h1 _ rfl)) ?_
    simp (disch:=first|exact bd (by with_unfolding_all rfl)|fail) only[WA,Nat.reduceEqDiff,Nat.reduceLT,↓reduceIte,reduceCtorEq]
    refine a6 (by rw[hC];exact hwr.flat rfl (h1 _ rfl)) ?_
    simp (disch:=first|exact bd (by with_unfolding_all rfl)|(simp only[d6]<;>omega)) only[WA,Nat.reduceEqDiff,Nat.reduceLT,↓reduceIte,reduceCtorEq,hmj]
    exact K6 h0 rfl
  ·rw[if_neg fun h=>h3 h.1]
   generalize L2 acc=e at*
   simp (disch:=first|omega|exact bd (by with_unfolding_all rfl)|fail) only[WA,Nat.reduceEqDiff,Nat.reduceLT,↓reduceIte,reduceCtorEq,vJ]
   all_goals try (exfalso;omega)
   refine a6 (by rw[hC];exact ha.flat rfl (h1 _ rfl)) ?_
   simp (disch:=first|omega|exact bd (by with_unfolding_all rfl)|fail) only[WA,Nat.reduceEqDiff,Nat.reduceLT,↓reduceIte,reduceCtorEq]
   all_goals try (exfalso;omega)
   exact K6 h0 rfl
end
set_option maxHeartbeats 1000000
section
variable (w:World) (n:Nat)
theorem WZ (s:Nat) (L:List n8) (hL:L.length≤140737488351232) (hK:KP L):m6 (EN w (n+7)) 10 [.sl s L.length (r8 L)] (.tup [m8 (B5 L).1,.sc (.int .i64 (B5 L).2)]) ⟨[],0,0⟩:=by
 have ha:=JV w n s L hL hK
 unfold B5
 by_cases h0:L2 L=0
 ·rw[h0] at ha
  rw[if_pos h0]
  have hok:=T7 h0
  have hw:=aB9 w (n+2) s L hok.1 hok.2.1
  generalize A6 L=W at*
  have hsz:=p8 W
  by_cases h2:2000<W.length
  ·rw[if_pos h2]
   refine d7 rfl rfl (fun _ _=>rfl) (Nat.le_of_ble_eq_true rfl) (g9 w) rfl fun C hC h0=>?_
   simp (disch:=first|exact bd (by with_unfolding_all rfl)|fail) only[WA,Nat.reduceEqDiff,Nat.reduceLT,↓reduceIte,reduceCtorEq,c10]
   refine a6 (by rw[hC];exact ha.flat rfl rfl) ?_
   simp (disch:=first|exact bd (by with_unfolding_all rfl)|fail) only[WA,Nat.reduceEqDiff,Nat.reduceLT,↓reduceIte,reduceCtorEq]
   refine a6 (by rw[hC];exact hw.flat rfl rfl) ?_
   simp (disch:=first|omega|exact bd (by with_unfolding_all rfl)|fail) only[WA,Nat.reduceEqDiff,Nat.reduceLT,↓reduceIte,hsz]
   all_goals try (exfalso;omega)
   exact b8 rfl h0 rfl
  ·rw[if_neg h2]
   refine d7 rfl rfl (fun _ _=>rfl) (Nat.le_of_ble_eq_true rfl) (g9 w) rfl fun C hC h0=>?_
   simp (disch:=first|exact bd (by with_unfolding_all rfl)|fail) only[WA,Nat.reduceEqDiff,Nat.reduceLT,↓reduceIte,reduceCtorEq,c10]
   refine a6 (by rw[hC];exact ha.flat rfl rfl) ?_
   simp (disch:=first|exact bd (by with_unfolding_all rfl)|fail) only[WA,Nat.reduceEqDiff,Nat.reduceLT,↓reduceIte,reduceCtorEq]
   refine a6 (by rw[hC];exact hw.flat rfl rfl) ?_
   simp (disch:=first|omega|exact bd (by with_unfolding_all rfl)|fail) only[WA,Nat.reduceEqDiff,Nat.reduceLT,↓reduceIte,hsz]
   all_goals try (exfalso;omega)
   exact b8 rfl h0 rfl
 ·rw[if_neg h0]
  generalize L2 L=e at*
  refine d7 rfl rfl (fun _ _=>rfl) (Nat.le_of_ble_eq_true rfl) (g9 w) rfl fun C hC h0=>?_
  simp (disch:=first|exact bd (by with_unfolding_all rfl)|fail) only[WA,Nat.reduceEqDiff,Nat.reduceLT,↓reduceIte,reduceCtorEq,c10]
  refine a6 (by rw[hC];exact ha.flat rfl rfl) ?_
  simp (disch:=first|omega|exact bd (by with_unfolding_all rfl)|fail) only[WA,Nat.reduceEqDiff,Nat.reduceLT,↓reduceIte,reduceCtorEq]
  all_goals try (exfalso;omega)
  exact b8 rfl h0 rfl
theorem aX3 (x:n8) (hk:x.kind<256):m6 (EN w (n+1)) 53 [nN x] (.sc (.int .i64 (if D3 x=true then 0 else 8))) ⟨[],0,0⟩:=by
 have go:∀ e:Int,(F8 x∧e=0)∨(¬ F8 x∧e=8)→m6 (EN w (n+1)) 53 [nN x] (.sc (.int .i64 e)) ⟨[],0,0⟩:=by
  obtain ⟨k,p,a,b⟩:=x
  unfold F8
  simp only at hk ⊢
  rcases (by omega:k=1∨k=2∨k=3∨k=4∨k=5∨k=6∨k=7∨k=8∨k=9∨k=10∨k=0∨10<k) with rfl|rfl|rfl|rfl|rfl|rfl|rfl|rfl|rfl|rfl|rfl|h10
  all_goals
   rintro e (⟨he,rfl⟩|⟨he,rfl⟩)
  all_goals
   cases p
  all_goals
   simp (config:={decide:=true}) only[reduceCtorEq,false_and,and_false,false_or,or_false,true_or,or_true,true_and,and_true,not_true_eq_false,not_false_eq_true] at he
  all_goals
   refine d7 rfl rfl (fun _ _=>rfl) (Nat.le_of_ble_eq_true rfl) (g9 w) rfl fun C hC h0=>?_
   repeat' (first|(simp (disch:=first|omega|exact bd (by with_unfolding_all rfl)|fail) only[WA,Nat.reduceEqDiff,Nat.reduceLT,↓reduceIte,reduceCtorEq,c53])|(apply A9<;>intro _))
  all_goals try (exfalso;omega)
  all_goals exact b8 rfl h0 rfl
 refine go _ ?_
 by_cases h:F8 x
 ·exact .inl ⟨h,by rw[if_pos (D6.2 h)]⟩
 ·exact .inr ⟨h,by rw[if_neg fun hh=>h (D6.1 hh)]⟩
theorem bJ4 (x:n8) (hx:F8 x):m6 (EN w (n+1)) 75 [nN x] (.sc (.int .i64 (P4 x))) ⟨[],0,0⟩∧m6 (EN w (n+1)) 76 [nN x] (.sc (.int .i64 (P3 x))) ⟨[],0,0⟩:=by
 have hb:=hx.bounds
 obtain ⟨k,p,a,b⟩:=x
 simp only at hb
 clear hx
 constructor
 all_goals
  rcases (by omega:k=1∨k=2∨k=3∨k=4∨k=5∨k=6∨k=7∨k=8∨k=9∨k=10) with rfl|rfl|rfl|rfl|rfl|rfl|rfl|rfl|rfl|rfl
  all_goals
   refine d7 rfl rfl (fun _ _=>rfl) (Nat.le_of_ble_eq_true rfl) (g9 w) rfl fun C hC h0=>?_
   repeat' (first|(simp (disch:=first|omega|exact bd (by with_unfolding_all rfl)|fail) only[WA,Nat.reduceEqDiff,Nat.reduceLT,↓reduceIte,reduceCtorEq,c75,c76]))
   exact b8 rfl h0 rfl
theorem bJ3 (s:Nat) (L:List n8) (hL:L.length≤200) (hok:L.all D3=true):m6 (EN w (n+2)) 54 [.sl s L.length (r8 L)] (.tup [.sc (.int .i64 (Q0 P4 L)),.sc (.int .i64 (Q0 P3 L))]) ⟨[],0,0⟩:=by
 refine d7 rfl rfl (fun _ _=>rfl) (Nat.le_of_ble_eq_true rfl) (g9 w) rfl fun C hC h0=>?_
 have hrn:C.E.rounds=C6:=by rw[hC,k8]
 have hil:=z7 L
 simp (disch:=first|exact bd (by with_unfolding_all rfl)|fail) only[WA,Nat.reduceEqDiff,Nat.reduceLT,↓reduceIte,reduceCtorEq,c54]
 all_goals try (exfalso;omega)
 refine y6 (fun m fr st=>∃ (k:Nat),m=L.length - k∧k≤L.length∧fr= [(0,.sl s L.length (r8 L)),(4,.sc (.int .i64 (Q0 P4 (L.take k)))),(5,.sc (.int .i64 (Q0 P3 (L.take k)))),(6,.sc (.int .i64 k))]∧st=⟨[],0,0⟩) L.length ?_ ⟨_,_,.refl _ _,0,by omega,Nat.zero_le _,rfl,rfl⟩ ?_
 ·rw[hrn];unfold C6;omega
 rintro m fr st ⟨k,rfl,hk,rfl,rfl⟩
 by_cases hlt:k<L.length
 case neg=>
  have:k=L.length:=by omega
  subst this
  rw[List.take_length]
  simp (disch:=first|omega|exact bd (by with_unfolding_all rfl)|fail) only[WA,Nat.reduceEqDiff,Nat.reduceLT,↓reduceIte,reduceCtorEq,aN0]
  all_goals try (exfalso;omega)
  exact b8 rfl h0 rfl
 have hag:=L9 L k hlt
 have u1:=lC (f:=P4) hlt
 have u2:=lC (f:=P3) hlt
 have htk:∀ x ∈ L.take k,F8 x:=fun x hx=>D6.1 (List.all_eq_true.1 hok x (List.mem_of_mem_take hx))
 have b1:=lD (f:=P4) fun x hx=>(Y0 (htk x hx)).1
 have b2:=lD (f:=P3) fun x hx=>(Y0 (htk x hx)).2
 have hl2:(L.take k).length≤200:=by rw[List.length_take];omega
 have hx:F8 L[k]! :=D6.1 (List.all_eq_true.1 hok _ (by rw[getElem!_pos _ k hlt];exact List.getElem_mem hlt))
 generalize L[k]! =X at*
 have c1:=Y0 hx
 obtain ⟨l1,l2⟩:=bJ4 w n X hx
 generalize Q0 P4 (L.take k)=U at*
 generalize Q0 P3 (L.take k)=M at*
 generalize P4 X=uu at*
 generalize P3 X=mm at*
 obtain ⟨xk,xp,xa,xb⟩:=X
 simp (disch:=first|omega|exact bd (by with_unfolding_all rfl)|fail) only[WA,Nat.reduceEqDiff,Nat.reduceLT,↓reduceIte,reduceCtorEq,aN0,hag]
 all_goals try (exfalso;omega)
 refine a6 (by rw[hC];exact l1.flat rfl rfl) ?_
 simp (disch:=first|omega|exact bd (by with_unfolding_all rfl)|fail) only[WA,Nat.reduceEqDiff,Nat.reduceLT,↓reduceIte,reduceCtorEq,hag]
 refine a6 (by rw[hC];exact l2.flat rfl rfl) ?_
 simp (disch:=first|omega|exact bd (by with_unfolding_all rfl)|fail) only[WA,Nat.reduceEqDiff,Nat.reduceLT,↓reduceIte,reduceCtorEq]
 all_goals try (exfalso;omega)
 refine ⟨L.length - (k+1),_,_,by omega,.refl _ _,k+1,rfl,by omega,?_,rfl⟩
 rw[u1,u2]
 rfl
theorem bW0 (s:Nat) (L:List n8) (hL:L.length≤140737488351232) (hK:KP L):m6 (EN w (n+3)) 29 [.sl s L.length (r8 L)] (.sc (.int .i64 (L2 L))) ⟨[],0,0⟩:=by
 refine d7 rfl rfl (fun _ _=>rfl) (Nat.le_of_ble_eq_true rfl) (g9 w) rfl fun C hC h0=>?_
 have hrn:C.E.rounds=C6:=by rw[hC,k8]
 have hil:=z7 L
 unfold L2
 by_cases h2:200<L.length
 ·rw[if_pos h2]
  simp (disch:=first|omega|exact bd (by with_unfolding_all rfl)|fail) only[WA,Nat.reduceEqDiff,Nat.reduceLT,↓reduceIte,reduceCtorEq,c29]
  all_goals try (exfalso;omega)
  exact b8 rfl h0 rfl
 rw[if_neg h2]
 simp (disch:=first|omega|exact bd (by with_unfolding_all rfl)|fail) only[WA,Nat.reduceEqDiff,Nat.reduceLT,↓reduceIte,reduceCtorEq,c29]
 all_goals try (exfalso;omega)
 refine y6 (fun m fr st=>∃ (k:Nat),m=L.length - k∧k≤L.length∧(L.take k).all D3=true∧fr= [(0,.sl s L.length (r8 L)),(3,.sc (.int .i64 k))]∧st=⟨[],0,0⟩) L.length ?_ ⟨_,_,.refl _ _,0,by omega,Nat.zero_le _,rfl,rfl,rfl⟩ ?_
 ·rw[hrn];unfold C6;omega
 rintro m fr st ⟨k,rfl,hk,hall,rfl,rfl⟩
 by_cases hlt:k<L.length
 ·have hag:=L9 L k hlt
  have hc:=aX3 w (n+1) L[k]! (hK.at hlt)
  cases hx:D3 L[k]! with
  |true=>
   have hst:=GB hlt hall hx
   rw[hx,if_pos rfl] at hc
   generalize L[k]! =X at*
   obtain ⟨xk,xp,xa,xb⟩:=X
   simp (disch:=first|omega|exact bd (by with_unfolding_all rfl)|fail) only[WA,Nat.reduceEqDiff,Nat.reduceLT,↓reduceIte,reduceCtorEq,LO,hag]
   all_goals try (exfalso;omega)
   refine a6 (by rw[hC];exact hc.flat rfl rfl) ?_
   simp (disch:=first|omega|exact bd (by with_unfolding_all rfl)|fail) only[WA,Nat.reduceEqDiff,Nat.reduceLT,↓reduceIte,reduceCtorEq]
   exact ⟨L.length - (k+1),_,_,by omega,.refl _ _,k+1,rfl,by omega,hst,rfl,rfl⟩
  |false=>
   rw[if_neg (RB hlt hx)]
   rw[hx,if_neg (by decide)] at hc
   generalize L[k]! =X at*
   obtain ⟨xk,xp,xa,xb⟩:=X
   simp (disch:=first|omega|exact bd (by with_unfolding_all rfl)|fail) only[WA,Nat.reduceEqDiff,Nat.reduceLT,↓reduceIte,reduceCtorEq,LO,hag]
   all_goals try (exfalso;omega)
   refine a6 (by rw[hC];exact hc.flat rfl rfl) ?_
   simp (disch:=first|exact bd (by with_unfolding_all rfl)|(simp only[d6]<;>omega)) only[WA,Nat.reduceEqDiff,Nat.reduceLT,Int.reduceEq,↓reduceIte,reduceCtorEq]
   exact b8 rfl h0 rfl
 ·have:k=L.length:=by omega
  subst this
  rw[List.take_length] at hall
  rw[if_pos hall]
  have hs:=bJ3 w n s L (by omega) hall
  generalize Q0 P4 L=U at*
  generalize Q0 P3 L=M at*
  by_cases hm:200<U∨200<M
  ·rw[if_pos hm]
   simp (disch:=first|omega|exact bd (by with_unfolding_all rfl)|fail) only[WA,Nat.reduceEqDiff,Nat.reduceLT,↓reduceIte,reduceCtorEq,LO]
   all_goals try (exfalso;omega)
   refine a6 (by rw[hC];exact hs.flat rfl rfl) ?_
   repeat' (first|(simp (disch:=first|omega|exact bd (by with_unfolding_all rfl)|fail) only[WA,Nat.reduceEqDiff,Nat.reduceLT,↓reduceIte,reduceCtorEq])|(apply A9<;>intro _))
   all_goals try (exfalso;omega)
   all_goals exact b8 rfl h0 rfl
  ·rw[if_neg hm]
   simp (disch:=first|omega|exact bd (by with_unfolding_all rfl)|fail) only[WA,Nat.reduceEqDiff,Nat.reduceLT,↓reduceIte,reduceCtorEq,LO]
   all_goals try (exfalso;omega)
   refine a6 (by rw[hC];exact hs.flat rfl rfl) ?_
   simp (disch:=first|omega|exact bd (by with_unfolding_all rfl)|fail) only[WA,Nat.reduceEqDiff,Nat.reduceLT,↓reduceIte,reduceCtorEq]
   all_goals try (exfalso;omega)
   all_goals exact b8 rfl h0 rfl
theorem pS (s t:Nat) (L M:List n8) (hL:L.length≤140737488351232) (hM:M.length≤140737488351232):m6 (EN w (n+1)) 14 [.sl s L.length (r8 L),.sl t M.length (r8 M)] (.sc (.bool (decide (L=M)))) ⟨[],0,0⟩:=by
 have hil:=z7 L
 have him:=z7 M
 by_cases hlen:L.length=M.length
 case neg=>
  rw[decide_eq_false fun h=>hlen (by rw[h])]
  refine d7 rfl rfl (fun _ _=>rfl) (Nat.le_of_ble_eq_true rfl) (g9 w) rfl fun C hC h0=>?_
  simp (disch:=first|omega|exact bd (by with_unfolding_all rfl)|fail) only[WA,Nat.reduceEqDiff,Nat.reduceLT,↓reduceIte,reduceCtorEq,c14]
  all_goals try (exfalso;omega)
  exact b8 rfl h0 rfl
 refine d7 rfl rfl (fun _ _=>rfl) (Nat.le_of_ble_eq_true rfl) (g9 w) rfl fun C hC h0=>?_
 have hrn:C.E.rounds=C6:=by rw[hC,k8]
 simp (disch:=first|omega|exact bd (by with_unfolding_all rfl)|fail) only[WA,Nat.reduceEqDiff,Nat.reduceLT,↓reduceIte,reduceCtorEq,c14]
 all_goals try (exfalso;omega)
 refine y6 (fun m fr st=>∃ (k:Nat),m=L.length - k∧k≤L.length∧(∀ j,j<k→L[j]! =M[j]!)∧fr= [(0,.sl s L.length (r8 L)),(1,.sl t M.length (r8 M)),(5,.sc (.int .i64 k))]∧st=⟨[],0,0⟩) L.length ?_ ⟨_,_,.refl _ _,0,by omega,Nat.zero_le _,fun j hj=>absurd hj (Nat.not_lt_zero _),rfl,rfl⟩ ?_
 ·rw[hrn];unfold C6;omega
 rintro m fr st ⟨k,rfl,hk,heq,rfl,rfl⟩
 by_cases hlt:k<L.length
 ·have hag:=L9 L k hlt
  have hag2:=L9 M k (by omega)
  by_cases hx:L[k]! =M[k]!
  ·have hnx:∀ j,j<k+1→L[j]! =M[j]! :=fun j hj=>by
    rcases Nat.lt_succ_iff_lt_or_eq.1 hj with h|h
    ·exact heq j h
    ·rw[h];exact hx
   rw[hx] at hag
   generalize M[k]! =X at*
   obtain ⟨xk,xp,xa,xb⟩:=X
   simp (disch:=first|omega|exact bd (by with_unfolding_all rfl)|(simp only[d6]<;>omega)) only[WA,m7,s8,Nat.reduceEqDiff,Nat.reduceLT,↓reduceIte,reduceCtorEq,WV,hag,hag2,↓bA]
   all_goals try (exfalso;omega)
   exact ⟨L.length - (k+1),_,_,by omega,.refl _ _,k+1,rfl,by omega,hnx,rfl,rfl⟩
  ·have hd:decide (L=M)=false:=decide_eq_false fun h=>hx (by rw[h])
   rw[hd]
   have hdd:=decide_eq_false hx
   generalize L[k]! =X at*
   generalize M[k]! =Y at*
   obtain ⟨xk,xp,xa,xb⟩:=X
   obtain ⟨yk,yp,ya,yb⟩:=Y
   simp (disch:=first|omega|exact bd (by with_unfolding_all rfl)|fail) only[WA,m7,s8,Nat.reduceEqDiff,Nat.reduceLT,↓reduceIte,reduceCtorEq,WV,hag,hag2,↓bA,hdd]
   all_goals try (exfalso;omega)
   exact b8 rfl h0 rfl
 ·have hd:decide (L=M)=true:=decide_eq_true (List.ext_getElem hlen fun j h1 h2=>by
   have:=heq j (by omega)
   rwa [getElem!_pos L j h1,getElem!_pos M j h2] at this)
  rw[hd]
  simp (disch:=first|omega|exact bd (by with_unfolding_all rfl)|fail) only[WA,Nat.reduceEqDiff,Nat.reduceLT,↓reduceIte,reduceCtorEq,WV]
  all_goals try (exfalso;omega)
  exact b8 rfl h0 rfl
def fG (l:Nat):Bool:=decide (60<l∧l≤200∨300<l)
theorem QE (s:Nat) (L:List n8) (hL:L.length≤140737488351232):m6 (EN w (n+1)) 9 [.sl s L.length (r8 L)] (.sc (.bool (fG L.length))) ⟨[],0,0⟩:=by
 unfold fG
 have go:∀ b:Bool,((60<L.length∧L.length≤200∨300<L.length)∧b=true)∨(¬ (60<L.length∧L.length≤200∨300<L.length)∧b=false)→m6 (EN w (n+1)) 9 [.sl s L.length (r8 L)] (.sc (.bool b)) ⟨[],0,0⟩:=by
  rintro b (⟨h,rfl⟩|⟨h,rfl⟩)
  all_goals
   refine d7 rfl rfl (fun _ _=>rfl) (Nat.le_of_ble_eq_true rfl) (g9 w) rfl fun C hC h0=>?_
   repeat' (first|(simp (disch:=first|omega|exact bd (by with_unfolding_all rfl)|fail) only[WA,Nat.reduceEqDiff,Nat.reduceLT,↓reduceIte,reduceCtorEq,c9])|(apply A9<;>intro _))
   all_goals try (exfalso;omega)
   all_goals exact b8 rfl h0 rfl
 by_cases h:60<L.length∧L.length≤200∨300<L.length
 ·exact go _ (.inl ⟨h,decide_eq_true h⟩)
 ·exact go _ (.inr ⟨h,decide_eq_false h⟩)
end
set_option maxHeartbeats 2000000
theorem MG (x:Nat):Lib.decDigits x=(if x / 10=0 then [] else Lib.decDigits (x / 10))++ [UInt8.ofNat (48+x % 10)]:=by
 by_cases h:x<10
 ·rw[Lib.decDigits,dif_pos h,if_pos (by omega),show x % 10=x by omega];rfl
 ·rw[Lib.decDigits,dif_neg h,if_neg (by omega)]
theorem bG1 {b:UInt8} (h:B0 b=true):Lib.digitVal b=some (b.toNat - 48):=by
 simp only[B0,Bool.and_eq_true,decide_eq_true_eq] at h
 unfold Lib.digitVal
 rw[if_pos h]
section
variable (w:World) (n:Nat)
theorem aD8 (x:Nat) (hx:x≤1000000000000):m6 (EN w (n+1)) 64 [.sc (.int .i64 x)] (m8 (Lib.decDigits x)) ⟨[],0,0⟩:=by
 refine d7 rfl rfl (fun _ _=>rfl) (Nat.le_of_ble_eq_true rfl) (g9 w) rfl fun C hC h0=>?_
 have hs1:∀ (c:UInt8) (s:List UInt8),s.length≤2000000000000→(ByteArray.mk [c].toArray).size+(ByteArray.mk s.toArray).size<9223372036854775807:=fun c s h=>by
  show 1+s.toArray.size<_
  simp;omega
 have e1:(x:Int) % 10=((x % 10:Nat):Int):=by omega
 have e2:(x:Int) / 10=((x / 10:Nat):Int):=by omega
 have e4:(48:Int)+((x % 10:Nat):Int)=((48+x % 10:Nat):Int):=by omega
 have e3:=HA (48+x % 10) (by omega)
 have e5:=WR (o:=0) (t:=5) (g:=false) (z:=false) (H:= [(0,.row 5 1 false false [.sc (.int .u8 ((48+x % 10:Nat):Int))])]) (48+x % 10) (by omega) rfl 1
 simp (disch:=first|omega|exact bd (by with_unfolding_all rfl)|fail) only[WA,Nat.reduceEqDiff,Nat.reduceLT,↓reduceIte,reduceCtorEq,c64,e1,e2,e4,e3,e5]
 refine y6 (fun m fr st=>∃ (k:Nat) (s:List UInt8),m=k∧k≤x∧Lib.decDigits x=(if k=0 then [] else Lib.decDigits k)++s∧s.length+k≤x+1∧fr= [(0,.sc (.int .i64 k)),(3,m8 s)]∧st=⟨[],0,0⟩) (x / 10) ?_ ⟨_,_,s9 [] 0 h0 rfl rfl rfl rfl,x / 10,[UInt8.ofNat (48+x % 10)],?_⟩ ?_
 ·rw[hC,k8];unfold C6;omega
 ·exact ⟨rfl,by omega,MG x,by simp;omega,rfl,rfl⟩
 rintro k fr st ⟨_,s,rfl,hk,hd,hsl,rfl,rfl⟩
 by_cases hlt:0<k
 ·rw[if_neg (by omega),MG k] at hd
  have e1:(k:Int) % 10=((k % 10:Nat):Int):=by omega
  have e2:(k:Int) / 10=((k / 10:Nat):Int):=by omega
  have e4:(48:Int)+((k % 10:Nat):Int)=((48+k % 10:Nat):Int):=by omega
  have e3:=HA (48+k % 10) (by omega)
  have e5:=WR (o:=0) (t:=5) (g:=false) (z:=false) (H:= [(0,.row 5 1 false false [.sc (.int .u8 ((48+k % 10:Nat):Int))])]) (48+k % 10) (by omega) rfl 1
  simp (disch:=first|omega|exact bd (by with_unfolding_all rfl)|fail) only[WA,Nat.reduceEqDiff,Nat.reduceLT,↓reduceIte,reduceCtorEq,aN1,e1,e2,e4,e3,e5,aM3 _ _ (hs1 (UInt8.ofNat (48+k % 10)) s (by omega)),CG]
  all_goals try (exfalso;omega)
  refine ⟨_,_,_,?_,s9 [] 0 h0 rfl rfl rfl rfl,k / 10,UInt8.ofNat (48+k % 10)::s,rfl,by omega,?_,by simp;omega,?_,?_⟩
  ·omega
  ·rw[hd];simp
  ·simp[yT,aD]
  ·simp[BS]
 ·have:k=0:=by omega
  subst this
  rw[hd]
  simp (disch:=first|omega|exact bd (by with_unfolding_all rfl)|fail) only[WA,Nat.reduceEqDiff,Nat.reduceLT,↓reduceIte,reduceCtorEq,aN1]
  all_goals try (exfalso;omega)
  exact b8 rfl h0 rfl
def lT (r:Option Int):V:= .tup [.sc (.int .i64 (r.getD 0)),.sc (.bool r.isSome)]
theorem uL (l:List UInt8) (hl:l.length≤1000000):m6 (EN w (n+1)) 85 [m8 l] (lT (W0 l)) ⟨[],0,0⟩:=by
 refine d7 rfl rfl (fun _ _=>rfl) (Nat.le_of_ble_eq_true rfl) (g9 w) (by cases W0 l<;>rfl) fun C hC h0=>?_
 have hsz:=p8 l
 have no:¬ (l ≠ []∧l.length≤4∧(1<l.length→l[0]! ≠ 48)∧l.all B0=true)→W0 l=none:=fun h=>by unfold W0;rw[if_neg h]
 by_cases h1:l.length=0∨4<l.length
 ·rw[no (fun h=>by
   have:=List.length_pos_iff.2 h.1
   omega)]
  repeat' (first|(simp (disch:=first|omega|exact bd (by with_unfolding_all rfl)|fail) only[WA,Nat.reduceEqDiff,Nat.reduceLT,↓reduceIte,reduceCtorEq,c85,lT])|(apply A9<;>intro _))
  all_goals try (exfalso;omega)
  all_goals exact b8 rfl h0 rfl
 have hb0:=Q6 l .i64 (0:Nat) (by omega) (by omega)
 have hx48:((l[0]!.toNat:Nat):Int)=48↔l[0]! =48:=by
  constructor
  ·intro h;apply UInt8.toNat_inj.1;rw[show (48:UInt8).toNat=48 by rfl];omega
  ·intro h;rw[h];rfl
 rw[Int.toNat_natCast] at hb0
 simp only[Int.natCast_zero] at hb0
 by_cases h2:1<l.length∧l[0]! =48
 ·rw[no (fun h=>h.2.2.1 h2.1 h2.2)]
  have h3:=hx48.2 h2.2
  generalize l[0]!.toNat=B at*
  simp (disch:=first|omega|exact bd (by with_unfolding_all rfl)|fail) only[WA,Nat.reduceEqDiff,Nat.reduceLT,↓reduceIte,reduceCtorEq,c85,lT,hb0]
  all_goals try (exfalso;omega)
  all_goals exact b8 rfl h0 rfl
 have h3:1<l.length→¬ ((l[0]!.toNat:Nat):Int)=48:=fun h hh=>h2 ⟨h,hx48.1 hh⟩
 have h3:¬ 1<l.length∨¬ ((l[0]!.toNat:Nat):Int)=48:=by
  by_cases h:1<l.length
  ·exact .inr (h3 h)
  ·exact .inl h
 have hR:l.all B0=true→W0 l=some (((Lib.decFrom 0 l).getD 0:Nat):Int):=fun h=>by
  unfold W0
  rw[if_pos ⟨List.length_pos_iff.1 (by omega),by omega,fun h5=>fun h6=>h2 ⟨h5,h6⟩,h⟩]
 generalize l[0]!.toNat=B at hb0 h3
 repeat' (first|(simp (disch:=first|omega|exact bd (by with_unfolding_all rfl)|fail) only[WA,Nat.reduceEqDiff,Nat.reduceLT,↓reduceIte,reduceCtorEq,c85,hb0])|(apply A9<;>intro _))
 all_goals try (exfalso;omega)
 all_goals
  refine y6 (fun m fr st=>∃ k u:Nat,m=l.length - k∧k≤l.length∧u<10 ^ k∧(∀ j,j<k→B0 l[j]! =true)∧Lib.decFrom 0 (l.take k)=some u∧fr= [(0,m8 l),(4,.sc (.int .i64 u)),(5,.sc (.int .i64 k))]∧st=⟨[],0,0⟩) l.length ?_ ⟨_,_,.refl _ _,0,0,?_⟩ ?_
  ·rw[hC,k8];unfold C6;omega
  ·exact ⟨by omega,by omega,by decide,(fun j hj=>absurd hj (Nat.not_lt_zero _)),rfl,rfl,rfl⟩
  rintro m fr st ⟨k,u,rfl,hk,hu,hd,hf,rfl,rfl⟩
  have hu9:u<10000:=Nat.lt_of_lt_of_le hu (by have:=Nat.pow_le_pow_right (show 1≤10 by omega) (show k≤4 by omega);simpa using this)
  by_cases hlt:k<l.length
  ·have hb:=Q6 l .i64 k (by omega) (by omega)
   rw[Int.toNat_natCast] at hb
   by_cases hdg:B0 l[k]! =true
   ·have hdg1:=hdg
    have hv:=bG1 hdg
    have hstep:=Lib.decFrom_take l k 0 u l[k]! _ hf (by rw[List.getElem?_eq_getElem hlt,getElem!_pos l k hlt]) hv
    have hnx:=BN hd hdg
    simp only[B0,Bool.and_eq_true,decide_eq_true_eq] at hdg1
    generalize l[k]!.toNat=b at hb hstep hdg1
    have e1:IntKind.u8.wrap ((b:Int) - 48)=((b - 48:Nat):Int):=by rw[uR _ (by omega) (by omega)];omega
    repeat' (first|(simp (disch:=first|omega|exact bd (by with_unfolding_all rfl)|fail) only[WA,Nat.reduceEqDiff,Nat.reduceLT,↓reduceIte,reduceCtorEq,WY,hb,e1]))
    all_goals try (exfalso;omega)
    refine ⟨_,_,_,by omega,.refl _ _,k+1,u*10+(b - 48),rfl,hlt,?_,hnx,hstep,?_,rfl⟩
    ·rw[Nat.pow_succ];omega
    ·have:(10:Int)*u+((b - 48:Nat):Int)=((u*10+(b - 48):Nat):Int):=by omega
     rw[this];simp
   ·have e:W0 l=none:=no fun h=>hdg (List.all_eq_true.1 h.2.2.2 l[k]! (by rw[getElem!_pos l k hlt];exact List.getElem_mem hlt))
    rw[e]
    have hdg2:¬ (48≤l[k]!.toNat∧l[k]!.toNat≤57):=fun h=>hdg (by simp only[B0,Bool.and_eq_true,decide_eq_true_eq];exact h)
    generalize l[k]!.toNat=b at hb hdg2
    repeat' (first|(simp (disch:=first|omega|exact bd (by with_unfolding_all rfl)|fail) only[WA,Nat.reduceEqDiff,Nat.reduceLT,↓reduceIte,reduceCtorEq,WY,hb,lT])|(apply A9<;>intro _))
    all_goals try (exfalso;omega)
    all_goals exact b8 rfl h0 rfl
  ·have:k=l.length:=by omega
   subst this
   rw[List.take_length] at hf
   have hall:l.all B0=true:=List.all_eq_true.2 fun c hc=>by
    obtain ⟨i,hi,rfl⟩:=List.getElem_of_mem hc
    have:=hd i hi
    rw[getElem!_pos l i hi] at this
    exact this
   rw[hR hall,hf]
   repeat' (first|(simp (disch:=first|omega|exact bd (by with_unfolding_all rfl)|fail) only[WA,Nat.reduceEqDiff,Nat.reduceLT,↓reduceIte,reduceCtorEq,WY,lT,Option.getD]))
   exact b8 rfl h0 rfl
theorem bW1 (l:List UInt8) (c:UInt8) (hl:l.length≤1000000):m6 (EN w (n+1)) 84 [m8 l,.sc (.int .u8 c.toNat)] (.gr 2 0 (n4 c l).length) ⟨[(0,.gro 9 1 false ((n4 c l).map sD))],1,0⟩:=by
 refine y9 rfl rfl (fun _ _=>rfl) (Nat.le_of_ble_eq_true rfl) (g9 w) (QD (ON rfl)) rfl fun C hC h0=>?_
 have hrn:C.E.rounds=C6:=by rw[hC,k8]
 have hsz:=p8 l
 simp (disch:=first|exact bd (by with_unfolding_all rfl)|fail) only[WA,Nat.reduceEqDiff,Nat.reduceLT,↓reduceIte,reduceCtorEq,c84]
 refine y6 (fun m fr st=>∃ (dn:List (List UInt8)) (p x r:List UInt8),m=r.length+1∧l=p++(x++r)∧c ∉ x∧n4 c l=dn++n4 c (x++r)∧fr= [(0,m8 l),(1,.sc (.int .u8 c.toNat)),(5,.gr 2 0 dn.length),(6,.sc (.int .i64 p.length)),(7,.sc (.int .i64 ((p.length+x.length:Nat):Int)))]∧st=⟨[(0,.gro 9 1 false (dn.map sD))],1,0⟩∨(m=0∧dn=n4 c l∧fr= [(0,m8 l),(1,.sc (.int .u8 c.toNat)),(5,.gr 2 0 dn.length),(6,.sc (.int .i64 ((l.length:Int)+1))),(7,.sc (.int .i64 ((l.length:Int)+1)))]∧st=⟨[(0,.gro 9 1 false (dn.map sD))],1,0⟩)) (l.length+1) ?_ ⟨_,_,P0 5 9 1 rfl,[],[],[],l,.inl ⟨rfl,rfl,by simp,rfl,rfl,rfl⟩⟩ ?_
 ·rw[hrn];unfold C6;omega
 rintro m fr st ⟨dn,p,x,r,⟨rfl,hlp,hx,hw,rfl,rfl⟩|⟨rfl,rfl,rfl,rfl⟩⟩
 case inr=>
  simp (disch:=first|omega|exact bd (by with_unfolding_all rfl)|fail) only[WA,Nat.reduceEqDiff,Nat.reduceLT,↓reduceIte,reduceCtorEq,LR]
  all_goals try (exfalso;omega)
  exact .refl _ _
 have hll:l.length=p.length+(x.length+r.length):=by rw[hlp];simp
 have hwl:=(words_len (c:=c) l.length (s:=l) (Nat.le_refl _)).1
 have hdl:dn.length≤l.length:=by
  have h1:=congrArg List.length hw
  have h2:=List.length_pos_iff.2 (eL c (x++r))
  rw[List.length_append] at h1
  omega
 have hdm:(dn.map sD).length=dn.length:=by rw[List.length_map]
 have e1:=aI0 l .i64 .i64 (p.length:Int) ((p.length+x.length:Nat):Int) (by omega) (by omega) (by omega)
 have e2:List.take (p.length+x.length - p.length) (List.drop p.length l)=x:=by
  rw[hlp,List.drop_left,Nat.add_sub_cancel_left,List.take_left]
 simp only[Int.toNat_natCast] at e1
 rw[e2] at e1
 cases r with
 |nil=>
  have hr0:([]:List UInt8).length=0:=rfl
  rw[List.append_nil,L1 hx] at hw
  have hpx:((p.length+x.length:Nat):Int)=(l.length:Int):=by omega
  have hxD:D.sc (Value.string ⟨x.toArray⟩)=sD x:=rfl
  simp (disch:=first|omega|exact bd (by with_unfolding_all rfl)|(simp only[d6]<;>omega)) only[WA,Nat.reduceEqDiff,Nat.reduceLT,Nat.reduceAdd,↓reduceIte,reduceCtorEq,LR,e1,aY4]
  all_goals try (exfalso;omega)
  rw[hpx]
  refine ⟨_,_,_,by omega,s9 [(2,0)] 1 h0 rfl rfl rfl rfl,dn++ [x],[],[],[],.inr ⟨rfl,hw.symm,?_,?_⟩⟩
  ·rw[List.length_append];rfl
  ·rw[List.map_append];rfl
 |cons b r=>
  have hr0:(b::r).length=r.length+1:=rfl
  have hb:=Q6 l .i64 ((p.length+x.length:Nat):Int) (by omega) (by omega)
  have hg:l[p.length+x.length]! =b:=by
   rw[hlp,← List.append_assoc,getElem!_pos _ _ (by simp),List.getElem_append_right (by simp)]
   simp
  rw[Int.toNat_natCast,hg] at hb
  by_cases hbc:b=c
  ·subst hbc
   rw[E7 r hx] at hw
   simp (disch:=first|omega|exact bd (by with_unfolding_all rfl)|(simp only[d6]<;>omega)) only[WA,Nat.reduceEqDiff,Nat.reduceLT,Nat.reduceAdd,↓reduceIte,reduceCtorEq,LR,e1,hb,aY4]
   all_goals try (exfalso;omega)
   refine ⟨_,_,_,?_,s9 [(2,0)] 1 h0 rfl rfl rfl rfl,dn++ [x],p++(x++ [b]),[],r,.inl ⟨rfl,by rw[hlp];simp,by simp,by rw[hw];simp,?_,?_⟩⟩
   ·omega
   ·have hpx:(p++(x++ [b])).length=p.length+x.length+1:=by simp;omega
    rw[hpx,List.length_append];rfl
   ·rw[List.map_append];rfl
  ·have hne:¬ ((b.toNat:Nat):Int)=((c.toNat:Nat):Int):=fun h=>hbc (UInt8.toNat_inj.1 (by omega))
   simp (disch:=first|omega|exact bd (by with_unfolding_all rfl)|fail) only[WA,Nat.reduceEqDiff,Nat.reduceLT,↓reduceIte,reduceCtorEq,LR,e1,hb,hne,aY4]
   all_goals try (exfalso;omega)
   refine ⟨_,_,_,?_,.refl _ _,dn,p,x++ [b],r,.inl ⟨rfl,by rw[hlp];simp,?_,by rw[hw];simp,?_,rfl⟩⟩
   ·omega
   ·rw[List.mem_append,List.mem_singleton];rintro (h|h);exact hx h;exact hbc h.symm
   ·rw[List.length_append];rfl
theorem aO3 (l:List UInt8) (c:UInt8) (hl:l.length≤1000000):m6 (EN w (n+1)) 84 [m8 l,.sc (.int .u8 c.toNat)] (.sl 2 (n4 c l).length ((n4 c l).map sD)) ⟨[],0,0⟩:=by
 refine (bW1 w n l c hl).fin ?_ rfl rfl rfl (fun h=>by cases h)
 exact aZ2 rfl (by simp)
end
set_option maxHeartbeats 400000
section
variable (w:World) (n:Nat)
theorem VK (z:Int) (h0:0≤z) (h1:z≤1000000):m6 (EN w (n+1)) 64 [.sc (.int .i64 z)] (m8 (Lib.itoa z)) ⟨[],0,0⟩:=by
 obtain ⟨u,rfl⟩:=Int.eq_ofNat_of_zero_le h0
 have:=aD8 w n u (by omega)
 rwa [← Lib.itoa_nonneg] at this
end
section
variable (w:World) (n:Nat)
end
end Go.Proofs.YtimmmnanllcfoaaDoor
namespace Go.Itp
set_option linter.unusedVariables false
set_option linter.unusedSimpArgs false
set_option maxRecDepth 10000
def JU:List UInt8:= [114,111,119,32]
def yG:List UInt8:= [32,40]
def IH:List UInt8:= [41,58,32]
def lH (b:Bool) (n:Int) (c s:List UInt8):Option (Bool × List n8 × Int):=match x9 (W3 b++IH) c with
 |none=>none
 |some t=>if (M5 t).2=0∧C7 b (M5 t).1 n=(s,0) then some (b,(M5 t).1,n) else none
def BP (s:List UInt8):Option (Bool × List n8 × Int):=match B7 [JU,yG] s with
 |none=>none
 |some (m,r)=>match J2 [46] r with
  |none=>none
  |some c=>match lH false (m.headD 0) c s with
   |some x=>some x
   |none=>lH true (m.headD 0) c s
theorem GG {b:Bool} {n:Int} {c s:List UInt8} {x:Bool × List n8 × Int} (h:lH b n c s=some x):dX s=some x:=by
 unfold lH at h
 split at h
 ·cases h
 ·split at h
  ·rename_i hh
   cases h
   exact pM hh.2
  ·cases h
theorem aG9 {s:List UInt8} {x:Bool × List n8 × Int} (h:BP s=some x):dX s=some x:=by
 unfold BP at h
 split at h
 ·cases h
 split at h
 ·cases h
 split at h
 ·rename_i he
  cases h
  exact GG he
 ·exact GG h
theorem EM {L:List n8} {t:List UInt8} (h:B5 L=(t,0)):M5 t=(L,0):=by
 unfold M5
 rw[nE h]
theorem bI9 {b:Bool} {L:List n8} {n:Int} {s:List UInt8} (h:C7 b L n=(s,0)):BP s=some (b,L,n):=by
 obtain ⟨hn,hc,hr,_⟩:=pR (by rw[h]:(C7 b L n).2=0)
 have hs:s=aN b n++A6 L++ [46]:=by rw[h] at hr;exact congrArg Prod.fst hr
 have e:s=JU++(Lib.itoa n++(yG++((W3 b++IH++A6 L)++ [46]))):=by
  rw[hs];simp[aN,aH7,JU,lK,yG,IH]
 have hnd:∀ r,Q9 (yG++r):=fun r c hc=>by
  simp only[yG,List.cons_append,List.head?_cons,Option.some.injEq] at hc
  subst hc;decide
 have hm:B7 [JU,yG] s=some ([n],(W3 b++IH++A6 L)++ [46]):=by
  rw[e]
  unfold B7
  simp only[H3]
  unfold S5
  rw[W6 (by omega) (by omega) (hnd _),if_neg oT,cD (by omega) (by omega) (hnd _),H3]
  simp only[S5,eH (show 0≤n by omega),List.nil_append]
 have ht:lH b n (W3 b++IH++A6 L) s=some (b,L,n):=by
  unfold lH
  rw[H3]
  simp only[EM hc,h,and_self,if_true]
 unfold BP
 rw[hm]
 simp only[vV,List.headD_cons]
 cases b with
 |false=>rw[ht]
 |true=>
  have h0:lH false n (W3 true++IH++A6 L) s=none:=by
   unfold lH
   have:x9 (W3 false++IH) (W3 true++IH++A6 L)=none:=by
    unfold x9
    rw[if_neg]
    rintro ⟨_,h2⟩
    simp[W3,IH] at h2
   rw[this]
  rw[h0,ht]
theorem bI8 (s:List UInt8):BP s=dX s:=by
 cases h:dX s with
 |some x=>
  obtain ⟨b,L,n⟩:=x
  exact bI9 (yQ h)
 |none=>
  cases hp:BP s with
  |none=>rfl
  |some x=>rw[aG9 hp] at h;cases h
def pE:List UInt8:= [115,116,97,114,116,32,119,105,116,104,32]
def gU:List UInt8:= [32,115,116,105,116,99,104,101,115,46]
noncomputable def lY:Int→List (List UInt8)→List (Bool × List n8)→Option (List (Bool × List n8))
 |_,[],acc=>some acc
 |n,x::xs,acc=>match dX x with
  |none=>none
  |some (b,L,k)=>if k=n then lY (n+1) xs (acc++ [(b,L)]) else none
noncomputable def lV (s:List UInt8):Option qE:=if 60000<s.length then none else match B7 [pE,gU] ((n4 10 s).headD []) with
 |none=>none
 |some (m,r)=>if r= []∧(n4 10 s).length≤102 then (match lY 1 (n4 10 s).tail.dropLast [] with
  |none=>none
  |some R=>if s5 (m.headD 0,R)=(s,0) then some (m.headD 0,R) else none) else none
theorem VF {s:List UInt8} {c:qE} (h:lV s=some c):pO s=some c:=by
 unfold lV at h
 split at h
 ·cases h
 split at h
 ·cases h
 split at h
 ·split at h
  ·cases h
  ·split at h
   ·rename_i hc
    cases h
    exact yS hc
   ·cases h
 ·cases h
theorem tU:∀ (l:List (Bool × List n8)) (n:Int) (acc:List (Bool × List n8)),(y7 n l).2=0→lY n (W8 n l) acc=some (acc++l)
 | [],n,acc,_=>by rw[W8,lY,List.append_nil]
 |r::l,n,acc,h=>by
  unfold y7 at h
  by_cases h1:(C7 r.1 r.2 n).2=0
  ·rw[if_pos h1] at h
   by_cases h2:(y7 (n+1) l).2=0
   ·have h3:C7 r.1 r.2 n=((C7 r.1 r.2 n).1,0):=by rw[← h1]
    rw[W8,lY,pM h3]
    simp only[if_true]
    rw[tU l (n+1) _ h2,List.append_assoc]
    rfl
   ·rw[if_neg h2] at h;exact absurd h h2
  ·rw[if_neg h1] at h;exact absurd h h1
theorem aV6 {s:List UInt8} {c:qE} (h:s5 c=(s,0)):lV s=some c:=by
 obtain ⟨h1,h2,h3,h4⟩:=dJ (by rw[h]:(s5 c).2=0)
 obtain ⟨c1,c2,c3⟩:=W5 h1
 have hw:=aR h
 have hlen:s.length≤60000:=by
  rw[h] at h4
  rw[show s=_ from congrArg Prod.fst h4]
  exact h3
 have hnd:Q9 gU:=fun d hd=>by
  simp only[gU,List.head?_cons,Option.some.injEq] at hd
  subst hd;decide
 have hm:B7 [pE,gU] (I0 c.1)=some ([c.1],[]):=by
  have e:I0 c.1=pE++(Lib.itoa c.1++(gU++ [])):=by simp[I0,pE,gU]
  rw[e]
  unfold B7
  simp only[H3]
  unfold S5
  rw[List.append_nil,W6 (by omega) (by omega) hnd,if_neg oT,cD (by omega) (by omega) hnd]
  have:=H3 gU []
  rw[List.append_nil] at this
  rw[this]
  simp only[S5,eH c2.1,List.nil_append]
 unfold lV
 rw[if_neg (by omega),hw]
 simp only[List.headD_cons,hm,List.tail_cons,List.dropLast_concat]
 rw[if_pos ⟨trivial,by simp only[List.length_cons,List.length_append,List.length_nil,W9];omega⟩,tU _ _ _ h2]
 simp only[List.nil_append]
 exact if_pos h
theorem aV5 (s:List UInt8):lV s=pO s:=by
 cases h:pO s with
 |some c=>exact aV6 (VL h)
 |none=>
  cases hp:lV s with
  |none=>rfl
  |some x=>rw[VF hp] at h;cases h
def zZ:List (UInt8 × Nat):= [(102,3),(108,4),(109,5),(120,6),(121,7),(115,8),(111,10)]
def tK:List (UInt8 × Nat)→UInt8→Nat
 | [],_=>0
 |(a,k)::r,c=>if a=c then k else tK r c
def dS (c:UInt8):Nat:=tK zZ c
theorem OG (c:UInt8):dS c≤10:=by
 unfold dS zZ
 simp only[tK]
 repeat' split
 all_goals omega
def fT (p:Bool):List UInt8:=if p=true then [112] else [107]
def EK (x:n8):List UInt8:=match x.kind with
 |1=>fT x.purl
 |2=> [121,111]
 |3=>fT x.purl++102::Lib.itoa x.a
 |4=>fT x.purl++108::Lib.itoa x.a
 |5=>fT x.purl++109::Lib.itoa x.a
 |6=>fT x.purl++120::(Lib.itoa x.a++47::Lib.itoa x.b)
 |7=>fT x.purl++121::(Lib.itoa x.a++47::Lib.itoa x.b)
 |8=>fT x.purl++ [115]
 |9=>111::110::Lib.itoa x.a
 |_=>fT x.purl++111::Lib.itoa x.a
def W4 (x:n8) (l:List n8):Nat:=if x.kind=1 then (l.takeWhile fun y=>decide (y=x)).length else 0
theorem QM (x:n8) (l:List n8):W4 x l≤l.length:=by
 unfold W4
 split
 ·exact (List.takeWhile_sublist _).length_le
 ·exact Nat.zero_le _
def wrF:Nat→List n8→List UInt8
 |0,_=> []
 |_+1,[]=> []
 |f+1,x::l=>32::(EK x++((if 0<W4 x l then Lib.itoa (W4 x l+1:Nat) else [])++wrF f (l.drop (W4 x l))))
def eM (l:List n8):List UInt8:=(wrF l.length l).drop 1
def mF (w:List UInt8):List n8 × Bool:=
 if w= [121,111] then ([⟨2,false,0,0⟩],true)
 else if 2<w.length∧w.take 2= [111,110] then ([⟨9,false,(W0 (w.drop 2)).getD 0,0⟩],(W0 (w.drop 2)).isSome)
 else if w.length=0∨(w[0]! ≠ 107∧w[0]! ≠ 112) then ([],false)
 else if w.length=1 then ([⟨1,decide (w[0]! =112),0,0⟩],true)
 else match W0 (w.drop 1) with
  |some n=>(List.replicate (min n.toNat 300) ⟨1,decide (w[0]! =112),0,0⟩,decide (1<n))
  |none=>if dS w[1]! =8 then ([⟨8,decide (w[0]! =112),0,0⟩],decide (w.length=2))
   else if dS w[1]! =6∨dS w[1]! =7 then (if (n4 47 (w.drop 2)).length=2 then ([⟨dS w[1]!,decide (w[0]! =112),(W0 (n4 47 (w.drop 2))[0]!).getD 0,(W0 (n4 47 (w.drop 2))[1]!).getD 0⟩],(W0 (n4 47 (w.drop 2))[1]!).isSome && (W0 (n4 47 (w.drop 2))[0]!).isSome)
    else ([⟨dS w[1]!,decide (w[0]! =112),(W0 (n4 47 (w.drop 2))[0]!).getD 0,0⟩],false))
   else ([⟨dS w[1]!,decide (w[0]! =112),(W0 (n4 47 (w.drop 2))[0]!).getD 0,0⟩],decide (dS w[1]! ≠ 0∧(n4 47 (w.drop 2)).length=1) && (W0 (n4 47 (w.drop 2))[0]!).isSome)
theorem aK9 (w:List UInt8):(mF w).1.length≤300:=by
 unfold mF
 repeat' split
 all_goals simp only[List.length_cons,List.length_nil,List.length_replicate]
 all_goals omega
theorem WL (w:List UInt8):∀ x ∈ (mF w).1,x.kind<256:=by
 have hk:=OG w[1]!
 have h1:∀ (k:Nat) (p:Bool) (a b:Int),k≤10→∀ x ∈ ([⟨k,p,a,b⟩]:List n8),x.kind<256:=fun k p a b h x hx=>by
  rw[List.mem_singleton.1 hx]
  exact Nat.lt_of_le_of_lt h (by decide)
 unfold mF
 repeat' split
 all_goals first
  |exact h1 _ _ _ _ hk
  |exact h1 _ _ _ _ (by decide)
  |(intro x hx;cases hx;done)
  |(intro x hx;rw[List.eq_of_mem_replicate hx];exact Nat.lt_of_le_of_lt (Nat.le_refl 1) (by decide))
def nD:List (List UInt8)→List n8→Option (List n8)
 | [],acc=>some acc
 |w::ws,acc=>if (mF w).2=true then (if 200<(acc++(mF w).1).length then none else nD ws (acc++(mF w).1)) else none
def E3 (s:List UInt8):List n8 × Int:=if 3000<s.length then ([],12) else if s= [] then ([],0) else match nD (n4 32 s) [] with
 |none=>([],12)
 |some L=>if L2 L=0∧eM L=s then (L,0) else ([],12)
end Go.Itp
namespace Go.Proofs.YtimmmnanllcfoaaDoor
open Go Go.Itp
set_option maxRecDepth 100000
set_option maxHeartbeats 400000
set_option linter.unusedSimpArgs false
set_option linter.unusedVariables false
theorem bQ1 (p:n8→Bool):∀ l:List n8,(∀ i,i<(l.takeWhile p).length→p l[i]! =true)∧((l.takeWhile p).length<l.length→p l[(l.takeWhile p).length]! =false)
 | []=>⟨fun i h=>by simp at h,fun h=>by simp at h⟩
 |x::l=>by
  obtain ⟨h1,h2⟩:=bQ1 p l
  rw[List.takeWhile_cons]
  cases h:p x with
  |false=>exact ⟨fun i h=>by simp at h,fun _=>by simpa using h⟩
  |true=>
   simp only[if_true,List.length_cons]
   refine ⟨fun i hi=>?_,fun hi=>?_⟩
   ·cases i with
    |zero=>simpa using h
    |succ i=>simpa using h1 i (by omega)
   ·simpa using h2 (by omega)
theorem aG4 {x:n8} (hx:F8 x):(EK x).length≤11:=by
 have hb:=hx.bounds
 have l2:=F6 (z:=x.a) (by omega) (by omega)
 have l3:=F6 (z:=x.b) (by omega) (by omega)
 have ls:(fT x.purl).length=1:=by cases x.purl<;>rfl
 unfold EK
 split
 all_goals simp only[List.length_append,List.length_cons,List.length_nil,ls]
 all_goals omega
abbrev kdL:List UInt8:= [102,108,109,120,121,115,111]
abbrev kdK:List Nat:= [3,4,5,6,7,8,10]
abbrev kdD:List D:= [.sc (.int .u8 3),.sc (.int .u8 4),.sc (.int .u8 5),.sc (.int .u8 6),.sc (.int .u8 7),.sc (.int .u8 8),.sc (.int .u8 10)]
theorem bH0 (c:UInt8) (i:Nat) (hi:i<7):tK (zZ.drop i) c=if kdL[i]! =c then kdK[i]! else tK (zZ.drop (i+1)) c:=by
 rcases (by omega:i=0∨i=1∨i=2∨i=3∨i=4∨i=5∨i=6) with rfl|rfl|rfl|rfl|rfl|rfl|rfl<;>rfl
theorem cD7 (i:Nat) (hi:i<7):D0 kdD i none=some (.sc (.int .u8 (kdK[i]! :Nat))):=by
 rcases (by omega:i=0∨i=1∨i=2∨i=3∨i=4∨i=5∨i=6) with rfl|rfl|rfl|rfl|rfl|rfl|rfl<;>rfl
theorem bT8 (nx:Nat):N7 nx 5 1 7 [.int .u8 0] [(0,1,.sc (.int .u8 3)),(1,1,.sc (.int .u8 4)),(2,1,.sc (.int .u8 5)),(3,1,.sc (.int .u8 6)),(4,1,.sc (.int .u8 7)),(5,1,.sc (.int .u8 8)),(6,1,.sc (.int .u8 10))]=some (.ref nx 0 7 7,some (.row 5 1 false false kdD),[]):=(rfl)
section
variable (w:World) (n:Nat)
theorem bT9 (c:UInt8):m6 (EN w (n+1)) 102 [.sc (.int .u8 c.toNat)] (.sc (.int .u8 (dS c))) ⟨[],0,0⟩:=by
 refine d7 rfl rfl (fun _ _=>rfl) (Nat.le_of_ble_eq_true rfl) (g9 w) rfl fun C hC h0=>?_
 have hrn:C.E.rounds=C6:=by rw[hC,k8]
 have hcc:∀ d:UInt8,((d.toNat:Nat):Int)=((c.toNat:Nat):Int)↔d=c:=fun d=>⟨fun h=>UInt8.toNat_inj.1 (by omega),fun h=>by rw[h]⟩
 have e0:dS c=tK (zZ.drop 0) c:=rfl
 generalize dS c=kf at*
 simp (disch:=first|exact bd (by with_unfolding_all rfl)|fail) only[WA,Nat.reduceEqDiff,Nat.reduceLT,↓reduceIte,reduceCtorEq,bF3,bT8]
 refine y6 (fun m fr st=>∃ i:Nat,m=7 - i∧i≤7∧kf=tK (zZ.drop i) c∧fr= [(0,.sc (.int .u8 c.toNat)),(3,m8 kdL),(4,.ref 0 0 7 7),(5,.sc (.int .i64 i))]∧st=⟨[(0,.row 5 1 false false kdD)],1,0⟩) 7 ?_ ⟨_,_,.refl _ _,0,rfl,by omega,e0,rfl,rfl⟩ ?_
 ·rw[hrn];unfold C6;omega
 rintro m fr st ⟨i,rfl,hi,hinv,rfl,rfl⟩
 have hsz:=p8 kdL
 have hsz7:kdL.length=7:=rfl
 by_cases hlt:i<7
 ·have hb:=Q6 kdL .i64 (i:Int) (by omega) (by omega)
  rw[Int.toNat_natCast] at hb
  have hld:=cD7 i hlt
  rw[bH0 c i hlt] at hinv
  have hd:=hcc kdL[i]!
  generalize kdL[i]! =d at*
  generalize kdK[i]! =q at*
  generalize hDD:kdD=DD at*
  have hDl:DD.length=7:=by rw[← hDD];rfl
  generalize kdL=LL at*
  by_cases h:d=c
  ·rw[if_pos h] at hinv
   subst hinv
   subst h
   simp (disch:=first|omega|exact bd (by with_unfolding_all rfl)|(simp only[d6]<;>omega)) only[WA,Nat.reduceEqDiff,Nat.reduceLT,↓reduceIte,reduceCtorEq,HS,hb,hsz,hsz7,hld]
   exact b8 rfl h0 rfl
  ·rw[if_neg h] at hinv
   have hd:¬ ((d.toNat:Nat):Int)=((c.toNat:Nat):Int):=fun e=>h (hd.1 e)
   generalize d.toNat=dn at*
   generalize c.toNat=cn at*
   simp (disch:=first|omega|exact bd (by with_unfolding_all rfl)|fail) only[WA,Nat.reduceEqDiff,Nat.reduceLT,↓reduceIte,reduceCtorEq,HS,hb,hsz,hsz7,hd]
   exact ⟨7 - (i+1),_,_,by omega,.refl _ _,i+1,rfl,by omega,hinv,rfl,rfl⟩
 ·obtain rfl:i=7:=by omega
  rw[show tK (zZ.drop 7) c=0 from rfl] at hinv
  subst hinv
  generalize kdL=LL at*
  simp (disch:=first|omega|exact bd (by with_unfolding_all rfl)|fail) only[WA,Nat.reduceEqDiff,Nat.reduceLT,↓reduceIte,reduceCtorEq,HS,hsz,hsz7]
  exact b8 rfl h0 rfl
theorem bH5 (x:n8) (hx:F8 x):m6 (EN w (n+2)) 103 [nN x] (m8 (EK x)) ⟨[],0,0⟩:=by
 have hb:=hx.bounds
 have d1:=VK w n x.a (by omega) (by omega)
 have d2:=VK w n x.b (by omega) (by omega)
 have l2:=F6 (z:=x.a) (by omega) (by omega)
 have l3:=F6 (z:=x.b) (by omega) (by omega)
 obtain ⟨k,p,a,b⟩:=x
 simp only at hb d1 d2 l2 l3
 unfold EK
 simp only
 generalize Lib.itoa a=A at*
 generalize Lib.itoa b=B at*
 clear hx
 rcases (by omega:(k=1∨k=2∨k=8)∨(k=3∨k=4∨k=5∨k=9∨k=10)∨(k=6∨k=7)) with (rfl|rfl|rfl)|(rfl|rfl|rfl|rfl|rfl)|(rfl|rfl)
 iterate 3
  ·cases p
   all_goals
    refine d7 rfl rfl (fun _ _=>rfl) (Nat.le_of_ble_eq_true rfl) (g9 w) rfl fun C hC h0=>?_
    repeat' (first|(simp (disch:=first|omega|exact bd (by with_unfolding_all rfl)|(simp only[d6]<;>omega)) only[WA,Nat.reduceEqDiff,Nat.reduceLT,↓reduceIte,reduceCtorEq,aD1,K5,List.append_assoc]))
    exact b8 rfl h0 rfl
 iterate 5
  ·cases p
   all_goals
    refine d7 rfl rfl (fun _ _=>rfl) (Nat.le_of_ble_eq_true rfl) (g9 w) rfl fun C hC h0=>?_
    repeat' (first|(simp (disch:=first|omega|exact bd (by with_unfolding_all rfl)|(simp only[d6]<;>omega)) only[WA,Nat.reduceEqDiff,Nat.reduceLT,↓reduceIte,reduceCtorEq,aD1,K5,List.append_assoc]))
    refine a6 (by rw[hC];exact d1.flat rfl rfl) ?_
    repeat' (first|(simp (disch:=first|exact bd (by with_unfolding_all rfl)|(simp only[d6]<;>omega)) only[WA,Nat.reduceEqDiff,Nat.reduceLT,↓reduceIte,K5,List.append_assoc]))
    all_goals try (exfalso;omega)
    exact b8 rfl h0 rfl
 all_goals
  cases p
  all_goals
   refine d7 rfl rfl (fun _ _=>rfl) (Nat.le_of_ble_eq_true rfl) (g9 w) rfl fun C hC h0=>?_
   repeat' (first|(simp (disch:=first|omega|exact bd (by with_unfolding_all rfl)|(simp only[d6]<;>omega)) only[WA,m7,s8,Nat.reduceEqDiff,Nat.reduceLT,Nat.reduceAdd,↓reduceIte,reduceCtorEq,aD1,K5,List.append_assoc]))
   refine Q4 (by rw[hC];exact d1.flat rfl rfl) ?_
   repeat' (first|(simp (disch:=first|exact bd (by with_unfolding_all rfl)|(simp only[d6]<;>omega)) only[WA,m7,s8,Nat.reduceEqDiff,Nat.reduceLT,Nat.reduceAdd,↓reduceIte,K5,List.append_assoc]))
   all_goals try (exfalso;omega)
   refine Q4 (by rw[hC];exact d2.flat rfl rfl) ?_
   repeat' (first|(simp (disch:=first|exact bd (by with_unfolding_all rfl)|(simp only[d6]<;>omega)) only[WA,Nat.reduceEqDiff,Nat.reduceLT,↓reduceIte,K5,List.append_assoc]))
   all_goals try (exfalso;omega)
   exact b8 rfl h0 rfl
theorem aI7 (L:List n8) (k:Nat) (hk:k<L.length):D0 (r8 L) (k*4) none=some (.sc (.int .u8 L[k]!.kind)):=
 iI (fun a:n8=> [D.sc (.int .u8 a.kind),.sc (.bool a.purl),.sc (.int .i64 a.a),.sc (.int .i64 a.b)]) 4 L (fun _=>rfl) k 0 hk (by decide)
theorem bD5 {C:C5} (hC:C.E=EN w (n+2)) (s:Nat) (L:List n8) (hL:L.length≤200) (j:Nat) (hj:j<L.length) (q:V) (st:l8) {K:List KF} {P:A8}
  (hgo:gK C K (.exit 2) [(0,.sl s L.length (r8 L)),(3,q),(4,.sc (.int .i64 ((j+W4 L[j]! (L.drop (j+1)):Nat):Int))),(5,.sc (.int .i64 ((1+W4 L[j]! (L.drop (j+1)):Nat):Int))),(47,.sc (.bool false))] st P):
  gL C [0,3,4,5] CH K [(0,.sl s L.length (r8 L)),(3,q),(4,.sc (.int .i64 j)),(5,.sc (.int .i64 1))] st P:=by
 have hrn:C.E.rounds=C6:=by rw[hC,k8]
 have hil:=z7 L
 have hdl:(L.drop (j+1)).length=L.length - (j+1):=List.length_drop
 have htl:=QM L[j]! (L.drop (j+1))
 have hat:(∀ i,i<W4 L[j]! (L.drop (j+1))→(L.drop (j+1))[i]! =L[j]!)∧(L[j]!.kind=1→W4 L[j]! (L.drop (j+1))<(L.drop (j+1)).length→(L.drop (j+1))[W4 L[j]! (L.drop (j+1))]! ≠ L[j]!)∧(L[j]!.kind ≠ 1→W4 L[j]! (L.drop (j+1))=0):=by
  have h1:=bQ1 (fun y=>decide (y=L[j]!)) (L.drop (j+1))
  unfold W4
  by_cases hk:L[j]!.kind=1
  ·rw[if_pos hk]
   exact ⟨fun i hi=>of_decide_eq_true (h1.1 i hi),fun _ hi=>of_decide_eq_false (h1.2 hi),fun h=>absurd hk h⟩
  ·rw[if_neg hk]
   exact ⟨fun i hi=>by omega,fun h=>absurd h hk,fun _=>rfl⟩
 generalize W4 L[j]! (L.drop (j+1))=t at*
 obtain ⟨ht,hn,hz⟩:=hat
 have hsame:∀ k,k≤t→L[j+k]! =L[j]! :=fun k hk=>by
  cases k with
  |zero=>rfl
  |succ k=>
   have:=ht k (by omega)
   rwa [wB (L:=L) (j:=j+1) (i:=k) (by omega),show j+1+k=j+(k+1) by omega] at this
 refine y6 (fun m fr st'=>∃ k:Nat,m=t - k∧k≤t∧fr= [(0,.sl s L.length (r8 L)),(3,q),(4,.sc (.int .i64 ((j+k:Nat):Int))),(5,.sc (.int .i64 ((1+k:Nat):Int)))]∧st'=st) t ?_ ⟨_,_,.refl _ _,0,by omega,Nat.zero_le _,rfl,rfl⟩ ?_
 ·rw[hrn];unfold C6;omega
 rintro m fr st' ⟨k,rfl,hk,rfl,rfl⟩
 have hagj:=L9 L (j+k) (by omega)
 rw[hsame k hk] at hagj
 have hkd:=aI7 L (j+k) (by omega)
 rw[hsame k hk] at hkd
 have hjk:((j+k:Nat):Int)+1=((j+k+1:Nat):Int):=by omega
 have hjk1:((1+k:Nat):Int)+1=((1+(k+1):Nat):Int):=by omega
 by_cases hk1:L[j]!.kind=1
 ·by_cases hlt:j+k+1<L.length
  ·have hag:=L9 L (j+k+1) hlt
   by_cases hkt:k<t
   ·rw[show j+k+1=j+(k+1) by omega,hsame (k+1) hkt] at hag
    rw[show j+(k+1)=j+k+1 by omega] at hag
    generalize L[j]! =X at*
    obtain ⟨xk,xp,xa,xb⟩:=X
    simp only at hk1
    subst hk1
    simp (disch:=first|omega|exact bd (by with_unfolding_all rfl)|(simp only[d6]<;>omega)) only[WA,m7,s8,Nat.reduceEqDiff,Nat.reduceLT,↓reduceIte,reduceCtorEq,CH,hjk,hkd,hag,hagj,↓bA]
    exact ⟨t - (k+1),_,_,by omega,.refl _ _,k+1,rfl,by omega,by rw[hjk1];rfl,rfl⟩
   ·have:k=t:=by omega
    subst this
    have he:=hn hk1 (by omega)
    rw[wB (L:=L) (j:=j+1) (i:=k) (by omega),show j+1+k=j+k+1 by omega] at he
    have hd:=decide_eq_false he
    clear hn ht hz hsame
    generalize L[j]! =X at*
    generalize L[j+k+1]! =Y at*
    obtain ⟨xk,xp,xa,xb⟩:=X
    obtain ⟨yk,yp,ya,yb⟩:=Y
    simp only at hk1
    subst hk1
    simp (disch:=first|omega|exact bd (by with_unfolding_all rfl)|fail) only[WA,m7,s8,Nat.reduceEqDiff,Nat.reduceLT,↓reduceIte,reduceCtorEq,CH,hjk,hkd,hag,hagj,↓bA,hd]
    exact hgo
  ·have:k=t:=by omega
   subst this
   clear hn ht hz hsame
   generalize L[j]! =X at*
   obtain ⟨xk,xp,xa,xb⟩:=X
   simp only at hk1
   subst hk1
   simp (disch:=first|omega|exact bd (by with_unfolding_all rfl)|fail) only[WA,m7,s8,Nat.reduceEqDiff,Nat.reduceLT,↓reduceIte,reduceCtorEq,CH,hjk,hkd,hagj]
   exact hgo
 ·obtain rfl:t=0:=hz hk1
  obtain rfl:k=0:=by omega
  clear hn ht hz hsame
  generalize L[j]! =X at*
  obtain ⟨xk,xp,xa,xb⟩:=X
  simp only at hk1
  have hk1:¬ ((xk:Nat):Int)=1:=by omega
  simp only[Nat.add_zero] at hkd hagj hgo hjk ⊢
  simp (disch:=first|omega|exact bd (by with_unfolding_all rfl)|fail) only[WA,m7,s8,Nat.reduceEqDiff,Nat.reduceLT,↓reduceIte,reduceCtorEq,CH,hjk,hkd,hagj,hk1]
  exact hgo
theorem aL2 (s:Nat) (L:List n8) (hL:L.length≤200) (hok:L.all D3=true):m6 (EN w (n+3)) 90 [.sl s L.length (r8 L)] (m8 (eM L)) ⟨[],0,0⟩:=by
 have hil:=z7 L
 have hP:∀ x ∈ L,F8 x:=fun x hx=>D6.1 (List.all_eq_true.1 hok x hx)
 unfold eM
 generalize hW:wrF L.length L=W
 refine d7 rfl rfl (fun _ _=>rfl) (Nat.le_of_ble_eq_true rfl) (g9 w) rfl fun C hC h0=>?_
 have hrn:C.E.rounds=C6:=by rw[hC,k8]
 simp (disch:=first|exact bd (by with_unfolding_all rfl)|fail) only[WA,Nat.reduceEqDiff,Nat.reduceLT,↓reduceIte,reduceCtorEq,c90]
 refine y6 (fun m fr st=>∃ (j f:Nat) (F:List UInt8),m=L.length - j∧j≤L.length∧W=F++wrF f (L.drop j)∧L.length - j≤f∧(j=0↔F= [])∧F.length≤20*j∧fr= [(0,.sl s L.length (r8 L)),(3,m8 (F.drop 1)),(4,.sc (.int .i64 j))]∧st=⟨[],0,0⟩) L.length ?_ ⟨_,_,.refl _ _,0,L.length,[],by omega,Nat.zero_le _,hW.symm,by omega,⟨fun _=>rfl,fun _=>rfl⟩,by simp,rfl,rfl⟩ ?_
 ·rw[hrn];unfold C6;omega
 rintro m fr st ⟨j,f,F,rfl,hj,hinv,hf,hjF,hFl,rfl,rfl⟩
 by_cases hlt:j<L.length
 ·obtain ⟨g,rfl⟩:∃ g,f=g+1:=⟨f - 1,by omega⟩
  have hXP:F8 L[j]! :=hP _ (by rw[getElem!_pos _ j hlt];exact List.getElem_mem hlt)
  have hone:=bH5 w n L[j]! hXP
  have hol:=aG4 hXP
  have hag:=L9 L j hlt
  have htl:=QM L[j]! (L.drop (j+1))
  rw[List.length_drop] at htl
  have hin:=fun q st K P=>bD5 w n hC s L hL j hlt q st (K:=K) (P:=P)
  rw[wC hlt,wrF,List.drop_drop] at hinv
  have hdec:=VK w (n+1) ((1+W4 L[j]! (L.drop (j+1)):Nat):Int) (by omega) (by omega)
  have hdl:=F6 (z:=((1+W4 L[j]! (L.drop (j+1)):Nat):Int)) (by omega) (by omega)
  rw[show ((W4 L[j]! (L.drop (j+1))+1:Nat):Int)=((1+W4 L[j]! (L.drop (j+1)):Nat):Int) by omega] at hinv
  generalize W4 L[j]! (L.drop (j+1))=t at*
  generalize EK L[j]! =O at*
  generalize Lib.itoa ((1+t:Nat):Int)=A at*
  generalize hX:L[j]! =X at*
  have hstep:W=(F++32::(O++if 0<t then A else []))++wrF g (L.drop (j+1+t)):=by rw[hinv];simp
  have hjt:((j+t:Nat):Int)+1=((j+1+t:Nat):Int):=by omega
  rcases F with _|⟨c,F0⟩
  ·obtain rfl:j=0:=hjF.2 rfl
   obtain ⟨xk,xp,xa,xb⟩:=X
   by_cases ht:0<t
   ·rw[if_pos ht] at hstep
    simp (disch:=first|omega|exact bd (by with_unfolding_all rfl)|fail) only[WA,Nat.reduceEqDiff,Nat.reduceLT,↓reduceIte,reduceCtorEq,CI,hag,List.drop_nil]
    all_goals try (exfalso;omega)
    refine a6 (by rw[hC];exact hone.flat rfl rfl) ?_
    simp (disch:=first|omega|exact bd (by with_unfolding_all rfl)|fail) only[WA,Nat.reduceEqDiff,Nat.reduceLT,↓reduceIte,reduceCtorEq,K5,List.nil_append]
    all_goals try (exfalso;omega)
    refine hin _ _ _ _ ?_
    simp (disch:=first|omega|exact bd (by with_unfolding_all rfl)|fail) only[WA,Nat.reduceEqDiff,Nat.reduceLT,↓reduceIte,reduceCtorEq]
    all_goals try (exfalso;omega)
    refine a6 (by rw[hC];exact hdec.flat rfl rfl) ?_
    simp (disch:=first|omega|exact bd (by with_unfolding_all rfl)|fail) only[WA,Nat.reduceEqDiff,Nat.reduceLT,↓reduceIte,reduceCtorEq,K5,hjt]
    all_goals try (exfalso;omega)
    exact ⟨L.length - (0+1+t),_,_,by omega,.refl _ _,0+1+t,g,[]++32::(O++A),rfl,by omega,hstep,by omega,⟨fun h=>by omega,fun h=>by cases h⟩,by simp;omega,by rw[show ((0+1+t:Nat):Int)=(t:Int)+1 by omega];rfl,rfl⟩
   ·rw[if_neg ht,List.append_nil] at hstep
    obtain rfl:t=0:=by omega
    simp (disch:=first|omega|exact bd (by with_unfolding_all rfl)|fail) only[WA,Nat.reduceEqDiff,Nat.reduceLT,↓reduceIte,reduceCtorEq,CI,hag,List.drop_nil]
    all_goals try (exfalso;omega)
    refine a6 (by rw[hC];exact hone.flat rfl rfl) ?_
    simp (disch:=first|omega|exact bd (by with_unfolding_all rfl)|fail) only[WA,Nat.reduceEqDiff,Nat.reduceLT,↓reduceIte,reduceCtorEq,K5,List.nil_append]
    all_goals try (exfalso;omega)
    refine hin _ _ _ _ ?_
    simp (disch:=first|omega|exact bd (by with_unfolding_all rfl)|fail) only[WA,Nat.reduceEqDiff,Nat.reduceLT,↓reduceIte,reduceCtorEq]
    all_goals try (exfalso;omega)
    exact ⟨L.length - (0+1+0),_,_,by omega,.refl _ _,0+1+0,g,[]++32::O,rfl,by omega,hstep,by omega,⟨fun h=>by omega,fun h=>by cases h⟩,by simp;omega,rfl,rfl⟩
  ·have hj0:j ≠ 0:=fun h=>by have:=hjF.1 h;cases this
   simp only[List.length_cons] at hFl
   obtain ⟨xk,xp,xa,xb⟩:=X
   by_cases ht:0<t
   ·rw[if_pos ht] at hstep
    simp (disch:=first|omega|exact bd (by with_unfolding_all rfl)|(simp only[d6]<;>omega)) only[WA,Nat.reduceEqDiff,Nat.reduceLT,↓reduceIte,reduceCtorEq,CI,hag,List.drop_succ_cons,List.drop_zero,K5]
    all_goals try (exfalso;omega)
    refine a6 (by rw[hC];exact hone.flat rfl rfl) ?_
    simp (disch:=first|exact bd (by with_unfolding_all rfl)|(simp only[d6]<;>omega)) only[WA,Nat.reduceEqDiff,Nat.reduceLT,↓reduceIte,reduceCtorEq,K5,List.append_assoc]
    all_goals try (exfalso;omega)
    refine hin _ _ _ _ ?_
    simp (disch:=first|omega|exact bd (by with_unfolding_all rfl)|fail) only[WA,Nat.reduceEqDiff,Nat.reduceLT,↓reduceIte,reduceCtorEq]
    all_goals try (exfalso;omega)
    refine a6 (by rw[hC];exact hdec.flat rfl rfl) ?_
    simp (disch:=first|omega|exact bd (by with_unfolding_all rfl)|(simp only[d6]<;>omega)) only[WA,Nat.reduceEqDiff,Nat.reduceLT,↓reduceIte,reduceCtorEq,K5,hjt,List.append_assoc]
    all_goals try (exfalso;omega)
    exact ⟨L.length - (j+1+t),_,_,by omega,.refl _ _,j+1+t,g,(c::F0)++32::(O++A),rfl,by omega,hstep,by omega,⟨fun h=>by omega,fun h=>by cases h⟩,by simp;omega,rfl,rfl⟩
   ·rw[if_neg ht,List.append_nil] at hstep
    obtain rfl:t=0:=by omega
    simp (disch:=first|omega|exact bd (by with_unfolding_all rfl)|(simp only[d6]<;>omega)) only[WA,Nat.reduceEqDiff,Nat.reduceLT,↓reduceIte,reduceCtorEq,CI,hag,List.drop_succ_cons,List.drop_zero,K5]
    all_goals try (exfalso;omega)
    refine a6 (by rw[hC];exact hone.flat rfl rfl) ?_
    simp (disch:=first|exact bd (by with_unfolding_all rfl)|(simp only[d6]<;>omega)) only[WA,Nat.reduceEqDiff,Nat.reduceLT,↓reduceIte,reduceCtorEq,K5,List.append_assoc]
    all_goals try (exfalso;omega)
    refine hin _ _ _ _ ?_
    simp (disch:=first|omega|exact bd (by with_unfolding_all rfl)|fail) only[WA,Nat.reduceEqDiff,Nat.reduceLT,↓reduceIte,reduceCtorEq]
    all_goals try (exfalso;omega)
    exact ⟨L.length - (j+1+0),_,_,by omega,.refl _ _,j+1+0,g,(c::F0)++32::O,rfl,by omega,hstep,by omega,⟨fun h=>by omega,fun h=>by cases h⟩,by simp;omega,rfl,rfl⟩
 ·have:j=L.length:=by omega
  subst this
  rw[List.drop_length] at hinv
  have hw0:wrF f []= []:=by cases f<;>rfl
  rw[hw0,List.append_nil] at hinv
  subst hinv
  simp (disch:=first|omega|exact bd (by with_unfolding_all rfl)|fail) only[WA,Nat.reduceEqDiff,Nat.reduceLT,↓reduceIte,reduceCtorEq,CI]
  all_goals try (exfalso;omega)
  exact b8 rfl h0 rfl
end
set_option maxHeartbeats 8000000
abbrev bQ8 (r:List n8 × Bool):V:= .tup [.sl 3 r.1.length (r8 r.1),.sc (.bool r.2)]
theorem X7 (H:E4) (o t:Nat) (g:Bool) (a b c d:D) (h:f8 H o=some (.row t 4 g false [a,b,c,d])):x7 H (.ref o 0 1 1)=some (.sl 0 1 [a,b,c,d]):=by
 simp only[x7,cY,h]
 rfl
section
variable (w:World) (n:Nat)
theorem aL0 {C:C5} (hC:C.E=EN w (n+1)) (h0:C.w0.nx=0) (x:n8) (u:Nat) {K:List KF} {P:A8}
  (hgo:gK C K (.exit 0) [(6,.ptr 0 0),(7,.sc (.int .i64 u)),(9,.gr 2 1 (min u 300)),(10,.sc (.int .i64 (min u 300:Nat))),(72,.sc (.bool false))] ⟨[(1,.gro 48 4 false (r8 (List.replicate (min u 300) x))),(0,cN x)],2,0⟩ P):
  gL C [6,7,9,10] LS K [(6,.ptr 0 0),(7,.sc (.int .i64 u)),(9,.sc (.slice none 0 0)),(10,.sc (.int .i64 0))] ⟨[(0,cN x)],1,0⟩ P:=by
 have hrn:C.E.rounds=C6:=by rw[hC,k8]
 generalize hM:min u 300=M at*
 refine y6 (fun m fr st=>∃ j:Nat,m=M - j∧j≤M∧fr= [(6,.ptr 0 0),(7,.sc (.int .i64 u)),(9,.gr 2 1 j),(10,.sc (.int .i64 j))]∧st=⟨[(1,.gro 48 4 false (r8 (List.replicate j x))),(0,cN x)],2,0⟩) M ?_ ⟨_,_,P0 9 48 4 rfl,0,by omega,Nat.zero_le _,rfl,rfl⟩ ?_
 ·rw[hrn];unfold C6;omega
 rintro m fr st ⟨j,rfl,hj,rfl,rfl⟩
 by_cases hlt:j<M
 ·have hsn:=GA (List.replicate j x) x
  have hd:=z7 (List.replicate j x)
  rw[List.length_replicate] at hd
  have hrs:List.replicate (j+1) x=List.replicate j x++ [x]:=List.replicate_succ'
  generalize r8 (List.replicate j x)=AD at*
  have hju:j<u:=by omega
  have hj3:j<300:=by omega
  obtain ⟨xk,xp,xa,xb⟩:=x
  simp (disch:=first|omega|exact bd (by with_unfolding_all rfl)|(simp only[d6]<;>omega)) only[WA,Nat.reduceEqDiff,Nat.reduceLT,Nat.reduceAdd,↓reduceIte,reduceCtorEq,LS,O7]
  all_goals try (exfalso;omega)
  refine ⟨M - (j+1),_,_,by omega,s9 [(3,1),(0,0)] 2 h0 rfl rfl rfl rfl,j+1,rfl,by omega,rfl,?_⟩
  rw[hrs,hsn];rfl
 ·have:j=M:=by omega
  subst this
  generalize r8 (List.replicate j x)=AD at*
  rcases (by omega:¬ j<u∨(j<u∧¬ j<300)) with h|⟨h,h'⟩
  ·simp (disch:=first|omega|exact bd (by with_unfolding_all rfl)|fail) only[WA,Nat.reduceEqDiff,Nat.reduceLT,↓reduceIte,LS]
   all_goals try (exfalso;omega)
   exact hgo
  ·simp (disch:=first|omega|exact bd (by with_unfolding_all rfl)|fail) only[WA,Nat.reduceEqDiff,Nat.reduceLT,↓reduceIte,LS]
   all_goals try (exfalso;omega)
   exact hgo
theorem bY9 (l:List UInt8) (hl:l.length≤100000):m6 (EN w (n+2)) 89 [m8 l] (bQ8 (mF l)) ⟨[],0,0⟩:=by
 have hsz:=p8 l
 have heq:∀ m:List UInt8,((⟨l.toArray⟩:ByteArray)=⟨m.toArray⟩)=(l=m):=aH l
 unfold mF
 by_cases h1:l= [121,111]
 ·rw[if_pos h1]
  subst h1
  refine y9 rfl rfl (fun _ _=>rfl) (Nat.le_of_ble_eq_true rfl) (g9 w) F7 rfl fun C hC h0=>?_
  simp (disch:=first|exact bd (by with_unfolding_all rfl)|(simp only[d6]<;>omega)) only[WA,Nat.reduceEqDiff,Nat.reduceLT,↓reduceIte,reduceCtorEq,c89,O7]
  exact R8 (s:=0) (n:=1) (X7 _ _ _ _ _ _ _ _ rfl) rfl (.inl (by decide)) h0 rfl
 rw[if_neg h1]
 have h1e:((⟨l.toArray⟩:ByteArray)=⟨#[121,111]⟩)=False:=(heq [121,111]).trans (eq_false h1)
 have hs2:2≤l.length→gX none (some (.int .i64 2)) (m8 l)=some (m8 (l.take 2)):=fun h=>pX l .i64 2 (by omega) (by omega)
 by_cases h2:2<l.length∧l.take 2= [111,110]
 ·rw[if_pos h2]
  have hs3:gX (some (.int .i64 2)) none (m8 l)=some (m8 (l.drop 2)):=aX l .i64 2 (by omega) (by omega)
  have hnu:=uL w n (l.drop 2) (by rw[List.length_drop];omega)
  have hs2:=hs2 (by omega)
  rw[h2.2] at hs2
  have h2l:=h2.1
  unfold lT at hnu
  generalize W0 (l.drop 2)=N at*
  generalize l.drop 2=T at*
  refine y9 rfl rfl (fun _ _=>rfl) (Nat.le_of_ble_eq_true rfl) (g9 w) F7 rfl fun C hC h0=>?_
  simp (disch:=first|omega|exact bd (by with_unfolding_all rfl)|(simp only[d6]<;>omega)) only[WA,Nat.reduceEqDiff,Nat.reduceLT,↓reduceIte,reduceCtorEq,c89,h1e,hsz,hs2,hs3]
  all_goals try (exfalso;omega)
  refine a6 (by rw[hC];exact hnu.flat rfl rfl) ?_
  simp (disch:=first|exact bd (by with_unfolding_all rfl)|(simp only[d6]<;>omega)) only[WA,Nat.reduceEqDiff,Nat.reduceLT,↓reduceIte,reduceCtorEq,O7]
  exact R8 (s:=0) (n:=1) (X7 _ _ _ _ _ _ _ _ rfl) rfl (.inl (by decide)) h0 rfl
 rw[if_neg h2]
 have h2e:2<l.length→((⟨(l.take 2).toArray⟩:ByteArray)=⟨#[111,110]⟩)=False:=fun h=>(aH (l.take 2) [111,110]).trans (eq_false fun e=>h2 ⟨h,e⟩)
 clear h2 heq
 by_cases h3:l.length=0∨(l[0]! ≠ 107∧l[0]! ≠ 112)
 ·rw[if_pos h3]
  rcases h3 with h3|⟨h3,h4⟩
  ·refine y9 rfl rfl (fun _ _=>rfl) (Nat.le_of_ble_eq_true rfl) (g9 w) F7 rfl fun C hC h0=>?_
   simp (disch:=first|omega|exact bd (by with_unfolding_all rfl)|fail) only[WA,Nat.reduceEqDiff,Nat.reduceLT,↓reduceIte,reduceCtorEq,c89,h1e,hsz]
   all_goals try (exfalso;omega)
   exact K6 h0 rfl
  ·have a3:¬ ((l[0]!.toNat:Nat):Int)=107:=fun h=>h3 (UInt8.toNat_inj.1 (show l[0]!.toNat=107 by omega))
   have a4:¬ ((l[0]!.toNat:Nat):Int)=112:=fun h=>h4 (UInt8.toNat_inj.1 (show l[0]!.toNat=112 by omega))
   have hb0:0<l.length→fK (m8 l) (.sc (.int .i64 0))=some (.sc (.int .u8 (l[0]!.toNat:Nat))):=fun h=>Q6 l .i64 0 (by omega) (by omega)
   generalize l[0]!.toNat=B at*
   refine y9 rfl rfl (fun _ _=>rfl) (Nat.le_of_ble_eq_true rfl) (g9 w) F7 rfl fun C hC h0=>?_
   repeat' (first|(simp (disch:=first|omega|exact bd (by with_unfolding_all rfl)|(simp only[d6]<;>omega)) only[WA,Nat.reduceEqDiff,Nat.reduceLT,↓reduceIte,reduceCtorEq,c89,h1e,hsz,hs2,h2e,hb0,a3,a4])|(apply A9<;>intro _))
   all_goals try (exfalso;omega)
   all_goals exact K6 h0 rfl
 rw[if_neg h3]
 have hl0:0<l.length:=by omega
 have hc:l[0]! =107∨l[0]! =112:=by
  by_cases e:l[0]! =107
  ·exact .inl e
  ·exact .inr (by
    by_cases e2:l[0]! =112
    ·exact e2
    ·exact absurd (.inr ⟨e,e2⟩) h3)
 clear h3
 have hb0:fK (m8 l) (.sc (.int .i64 0))=some (.sc (.int .u8 (l[0]!.toNat:Nat))):=Q6 l .i64 0 (by omega) (by omega)
 obtain ⟨p,hp,hpn⟩:∃ p:Bool,decide (l[0]! =112)=p∧((l[0]!.toNat:Nat):Int)=if p=true then 112 else 107:=by
  rcases hc with e|e
  ·exact ⟨false,by rw[e];rfl,by rw[e];rfl⟩
  ·exact ⟨true,by rw[e];rfl,by rw[e];rfl⟩
 rw[hp]
 rw[hpn] at hb0
 clear hc hpn hp
 by_cases h4:l.length=1
 ·rw[if_pos h4]
  cases p
  all_goals
   simp only[reduceIte,Bool.false_eq_true] at hb0
   refine y9 rfl rfl (fun _ _=>rfl) (Nat.le_of_ble_eq_true rfl) (g9 w) F7 rfl fun C hC h0=>?_
   repeat' (first|(simp (disch:=first|omega|exact bd (by with_unfolding_all rfl)|(simp only[d6]<;>omega)) only[WA,Nat.reduceEqDiff,Nat.reduceLT,Nat.reduceAdd,Int.reduceEq,↓reduceIte,reduceCtorEq,List.replicate,c89,h1e,hsz,hs2,h2e,hb0,O7]))
   all_goals try (exfalso;omega)
   all_goals exact R8 (s:=0) (n:=1) (X7 _ _ _ _ _ _ _ _ rfl) rfl (.inl (by decide)) h0 rfl
 rw[if_neg h4]
 have hs1:gX (some (.int .i64 1)) none (m8 l)=some (m8 (l.drop 1)):=aX l .i64 1 (by omega) (by omega)
 have hnu:=uL w n (l.drop 1) (by rw[List.length_drop];omega)
 have hb1:fK (m8 l) (.sc (.int .i64 1))=some (.sc (.int .u8 (l[1]!.toNat:Nat))):=Q6 l .i64 1 (by omega) (by omega)
 have hki:=bT9 w n l[1]!
 cases hN:W0 (l.drop 1) with
 |some z=>
  rw[hN] at hnu
  unfold lT at hnu
  simp only[Option.getD_some,Option.isSome_some] at hnu
  obtain ⟨u,rfl⟩:∃ u:Nat,z=u:=by
   unfold W0 at hN
   split at hN
   ·exact ⟨_,(Option.some.inj hN).symm⟩
   ·cases hN
  simp only[Int.toNat_natCast]
  clear hki hb1 hN
  generalize l.drop 1=T at*
  have hd:∀ q:Bool,(r8 (List.replicate (min u 300) (⟨1,q,0,0⟩:n8))).length=min u 300*4:=fun q=>by rw[z7,List.length_replicate]
  show m6 _ _ _ (.tup [.sl 3 (List.replicate (min u 300) (⟨1,p,0,0⟩:n8)).length _,_]) _
  rw[List.length_replicate]
  cases p
  all_goals
   simp only[reduceIte,Bool.false_eq_true] at hb0
   refine y9 rfl rfl (fun _ _=>rfl) (Nat.le_of_ble_eq_true rfl) (g9 w) F7 rfl fun C hC h0=>?_
   have hrn:C.E.rounds=C6:=by rw[hC,k8]
   repeat' (first|(simp (disch:=first|omega|exact bd (by with_unfolding_all rfl)|(simp only[d6]<;>omega)) only[WA,Nat.reduceEqDiff,Nat.reduceLT,Int.reduceEq,↓reduceIte,reduceCtorEq,List.replicate,c89,h1e,hsz,hs2,h2e,hb0,hs1])|(apply A9<;>intro _))
   all_goals try (exfalso;omega)
   all_goals refine a6 (by rw[hC];exact hnu.flat rfl rfl) ?_
   all_goals repeat' (first|(simp (disch:=first|exact bd (by with_unfolding_all rfl)|fail) only[WA,Nat.reduceEqDiff,Nat.reduceLT,↓reduceIte,reduceCtorEq]))
   all_goals refine aL0 w n hC h0 ⟨1,_,0,0⟩ u ?_
   all_goals generalize min u 300=M at*
   all_goals repeat' (first|(simp (disch:=first|exact bd (by with_unfolding_all rfl)|fail) only[WA,Nat.reduceEqDiff,Nat.reduceLT,↓reduceIte]))
   all_goals first|exact R8 (s:=2) (cG rfl (hd false)) rfl (.inl (by decide)) h0 rfl|exact R8 (s:=2) (cG rfl (hd true)) rfl (.inl (by decide)) h0 rfl
 |none=>
  rw[hN] at hnu
  unfold lT at hnu
  simp only[Option.getD_none,Option.isSome_none] at hnu
  simp only
  have hkl:=OG l[1]!
  generalize dS l[1]! =k at*
  generalize l[1]!.toNat=B1 at*
  clear hN
  generalize l.drop 1=T1 at*
  by_cases h8:k=8
  ·rw[if_pos h8]
   subst h8
   by_cases hl2:l.length=2
   all_goals
    simp only[hl2,decide_true,decide_false]
    cases p
    all_goals
     simp only[reduceIte,Bool.false_eq_true] at hb0
     refine y9 rfl rfl (fun _ _=>rfl) (Nat.le_of_ble_eq_true rfl) (g9 w) F7 rfl fun C hC h0=>?_
     repeat' (first|(simp (disch:=first|omega|exact bd (by with_unfolding_all rfl)|(simp only[d6]<;>omega)) only[WA,Nat.reduceEqDiff,Nat.reduceLT,Int.reduceEq,↓reduceIte,reduceCtorEq,List.replicate,c89,h1e,hsz,hs2,h2e,hb0,hs1]))
     all_goals try (exfalso;omega)
     all_goals refine a6 (by rw[hC];exact hnu.flat rfl rfl) ?_
     all_goals repeat' (first|(simp (disch:=first|exact bd (by with_unfolding_all rfl)|fail) only[WA,Nat.reduceEqDiff,Nat.reduceLT,↓reduceIte,reduceCtorEq,hb1]))
     all_goals refine a6 (by rw[hC];exact hki.flat rfl rfl) ?_
     all_goals repeat' (first|(simp (disch:=first|omega|exact bd (by with_unfolding_all rfl)|(simp only[d6]<;>omega)) only[WA,Nat.reduceEqDiff,Nat.reduceLT,Nat.reduceAdd,↓reduceIte,reduceCtorEq,O7,hsz]))
     all_goals try (exfalso;omega)
     all_goals exact R8 (s:=0) (n:=1) (X7 _ _ _ _ _ _ _ _ rfl) rfl (.inl (by decide)) h0 rfl
  rw[if_neg h8]
  have hs3:gX (some (.int .i64 2)) none (m8 l)=some (m8 (l.drop 2)):=aX l .i64 2 (by omega) (by omega)
  have hct:=aO3 w n (l.drop 2) 47 (by rw[List.length_drop];omega)
  have hwl:=(Go.Itp.words_len (c:=47) (l.drop 2).length (s:=l.drop 2) (Nat.le_refl _))
  have hwn:=eL 47 (l.drop 2)
  have hdl:(l.drop 2).length=l.length - 2:=List.length_drop
  generalize n4 47 (l.drop 2)=q at*
  generalize l.drop 2=T2 at*
  obtain ⟨q0,qt,rfl⟩:∃ a t,q=a::t:=by
   cases q with
   |nil=>exact absurd rfl hwn
   |cons a t=>exact ⟨a,t,rfl⟩
  have hn0:=uL w n q0 (by have:=hwl.2 q0 (by simp);omega)
  have dl0:D0 (sD q0::List.map sD qt) 0 none=some (m8 q0):=(rfl)
  rw[show (q0::qt)[0]! =q0 from rfl]
  unfold lT at hn0
  by_cases h67:k=6∨k=7
  ·rw[if_pos h67]
   by_cases hp2:(q0::qt).length=2
   ·rw[if_pos hp2]
    obtain ⟨q1,rfl⟩:∃ a,qt= [a]:=by
     cases qt with
     |nil=>simp at hp2
     |cons a t=>cases t with
      |nil=>exact ⟨a,rfl⟩
      |cons b t=>simp at hp2
    have hn1:=uL w n q1 (by have:=hwl.2 q1 (by simp);omega)
    have dlA:D0 [sD q0,sD q1] 0 none=some (m8 q0):=(rfl)
    have dlB:D0 [sD q0,sD q1] 1 none=some (m8 q1):=(rfl)
    have hl3:2<l.length:=by have:=hwl.1;omega
    rw[show [q0,q1][1]! =q1 from rfl]
    unfold lT at hn1
    generalize (W0 q0).getD 0=a0 at*
    generalize (W0 q0).isSome=b0 at*
    generalize (W0 q1).getD 0=a1 at*
    generalize (W0 q1).isSome=b1 at*
    have hbb:(b1 && b0)=if b1=true then b0 else false:=by cases b1<;>rfl
    rw[hbb]
    clear hbb hwl hwn hp2 hdl hkl h8
    rcases h67 with rfl|rfl
    all_goals
     cases b1
     all_goals
      cases p
      all_goals
       simp only[reduceIte,Bool.false_eq_true] at hb0 ⊢
       refine y9 rfl rfl (fun _ _=>rfl) (Nat.le_of_ble_eq_true rfl) (g9 w) F7 rfl fun C hC h0=>?_
       repeat' (first|(simp (disch:=first|omega|exact bd (by with_unfolding_all rfl)|(simp only[d6]<;>omega)) only[WA,Nat.reduceEqDiff,Nat.reduceLT,Int.reduceEq,↓reduceIte,reduceCtorEq,List.replicate,c89,h1e,hsz,hs2,h2e,hb0,hs1]))
       all_goals try (exfalso;omega)
       all_goals refine a6 (by rw[hC];exact hnu.flat rfl rfl) ?_
       all_goals repeat' (first|(simp (disch:=first|exact bd (by with_unfolding_all rfl)|fail) only[WA,Nat.reduceEqDiff,Nat.reduceLT,↓reduceIte,reduceCtorEq,hb1]))
       all_goals refine a6 (by rw[hC];exact hki.flat rfl rfl) ?_
       all_goals repeat' (first|(simp (disch:=first|omega|exact bd (by with_unfolding_all rfl)|(simp only[d6]<;>omega)) only[WA,Nat.reduceEqDiff,Nat.reduceLT,↓reduceIte,reduceCtorEq,hsz,hs3]))
       all_goals try (exfalso;omega)
       all_goals refine l5 (by rw[hC];exact hct) rfl rfl (fun _=>rfl) ?_
       all_goals repeat' (first|(simp (disch:=first|omega|exact bd (by with_unfolding_all rfl)|fail) only[WA,Nat.reduceEqDiff,Nat.reduceLT,Nat.reduceAdd,↓reduceIte,BE,tn1,dlA,dlB,List.length_cons,List.length_nil,List.map_cons,List.map_nil]))
       all_goals refine a6 (by rw[hC];exact hn1.flat rfl rfl) ?_
       all_goals repeat' (first|(simp (disch:=first|omega|exact bd (by with_unfolding_all rfl)|(simp only[d6]<;>omega)) only[WA,Nat.reduceEqDiff,Nat.reduceLT,↓reduceIte,BE,tn1,dlA,dlB]))
       all_goals refine a6 (by rw[hC];exact hn0.flat rfl rfl) ?_
       all_goals repeat' (first|(simp (disch:=first|exact bd (by with_unfolding_all rfl)|(simp only[d6]<;>omega)) only[WA,Nat.reduceEqDiff,Nat.reduceLT,Nat.reduceAdd,↓reduceIte,O7]))
       all_goals exact R8 (s:=0) (n:=1) (X7 _ _ _ _ _ _ _ _ rfl) rfl (.inl (by decide)) h0 rfl
   ·rw[if_neg hp2]
    have hp2:¬ qt.length+1=2:=hp2
    generalize (W0 q0).getD 0=a0 at*
    generalize (W0 q0).isSome=b0 at*
    clear hwl hwn hkl h8
    rcases h67 with rfl|rfl
    all_goals
     cases p
     all_goals
      simp only[reduceIte,Bool.false_eq_true] at hb0 ⊢
      refine y9 rfl rfl (fun _ _=>rfl) (Nat.le_of_ble_eq_true rfl) (g9 w) F7 rfl fun C hC h0=>?_
      repeat' (first|(simp (disch:=first|omega|exact bd (by with_unfolding_all rfl)|(simp only[d6]<;>omega)) only[WA,Nat.reduceEqDiff,Nat.reduceLT,Int.reduceEq,↓reduceIte,reduceCtorEq,List.replicate,c89,h1e,hsz,hs2,h2e,hb0,hs1])|(apply A9<;>intro _))
      all_goals try (exfalso;omega)
      all_goals refine a6 (by rw[hC];exact hnu.flat rfl rfl) ?_
      all_goals repeat' (first|(simp (disch:=first|exact bd (by with_unfolding_all rfl)|fail) only[WA,Nat.reduceEqDiff,Nat.reduceLT,↓reduceIte,reduceCtorEq,hb1]))
      all_goals refine a6 (by rw[hC];exact hki.flat rfl rfl) ?_
      all_goals repeat' (first|(simp (disch:=first|omega|exact bd (by with_unfolding_all rfl)|(simp only[d6]<;>omega)) only[WA,Nat.reduceEqDiff,Nat.reduceLT,↓reduceIte,reduceCtorEq,hsz,hs3]))
      all_goals try (exfalso;omega)
      all_goals refine l5 (by rw[hC];exact hct) rfl rfl (fun _=>rfl) ?_
      all_goals repeat' (first|(simp (disch:=first|omega|exact bd (by with_unfolding_all rfl)|fail) only[WA,Nat.reduceEqDiff,Nat.reduceLT,↓reduceIte,BE,dl0,List.length_cons,List.map_cons,hp2]))
      all_goals try (exfalso;omega)
      all_goals refine a6 (by rw[hC];exact hn0.flat rfl rfl) ?_
      all_goals repeat' (first|(simp (disch:=first|exact bd (by with_unfolding_all rfl)|(simp only[d6]<;>omega)) only[WA,Nat.reduceEqDiff,Nat.reduceLT,Nat.reduceAdd,↓reduceIte,O7]))
      all_goals exact R8 (s:=0) (n:=1) (X7 _ _ _ _ _ _ _ _ rfl) rfl (.inl (by decide)) h0 rfl
  ·rw[if_neg h67]
   have h6:¬ k=6:=fun h=>h67 (.inl h)
   have h7:¬ k=7:=fun h=>h67 (.inr h)
   have h6i:¬ ((k:Nat):Int)=6:=by omega
   have h7i:¬ ((k:Nat):Int)=7:=by omega
   have h8i:¬ ((k:Nat):Int)=8:=by omega
   generalize (W0 q0).getD 0=a0 at*
   generalize (W0 q0).isSome=b0 at*
   clear hwl hwn hkl h8 h67
   obtain ⟨B,hB⟩:∃ B:Bool,decide (k ≠ 0∧(q0::qt).length=1)=B:=⟨_,rfl⟩
   have hB1:(B=true↔¬ ((k:Nat):Int)=0∧qt.length+1=1):=by
    rw[← hB,decide_eq_true_iff]
    simp only[List.length_cons]
    omega
   have hbb:(B && b0)=if B=true then b0 else false:=by cases B<;>rfl
   rw[hB,hbb]
   clear hB hbb
   have hcase:(B=true∧¬ ((k:Nat):Int)=0∧qt.length+1=1)∨(B=false∧k=0)∨(B=false∧¬ ((k:Nat):Int)=0∧¬ qt.length+1=1):=by
    cases B with
    |true=>exact .inl ⟨rfl,hB1.1 rfl⟩
    |false=>
     by_cases e:k=0
     ·exact .inr (.inl ⟨rfl,e⟩)
     ·refine .inr (.inr ⟨rfl,by omega,fun e2=>?_⟩)
      have:=hB1.2 ⟨by omega,e2⟩
      cases this
   clear hB1
   rcases hcase with ⟨rfl,hk0,hq1⟩|⟨rfl,rfl⟩|⟨rfl,hk0,hq1⟩
   all_goals
    cases p
    all_goals
     simp only[reduceIte,Bool.false_eq_true] at hb0 ⊢
     refine y9 rfl rfl (fun _ _=>rfl) (Nat.le_of_ble_eq_true rfl) (g9 w) F7 rfl fun C hC h0=>?_
     repeat' (first|(simp (disch:=first|omega|exact bd (by with_unfolding_all rfl)|(simp only[d6]<;>omega)) only[WA,Nat.reduceEqDiff,Nat.reduceLT,Int.reduceEq,↓reduceIte,reduceCtorEq,List.replicate,c89,h1e,hsz,hs2,h2e,hb0,hs1])|(apply A9<;>intro _))
     all_goals try (exfalso;omega)
     all_goals refine a6 (by rw[hC];exact hnu.flat rfl rfl) ?_
     all_goals repeat' (first|(simp (disch:=first|exact bd (by with_unfolding_all rfl)|fail) only[WA,Nat.reduceEqDiff,Nat.reduceLT,↓reduceIte,reduceCtorEq,hb1]))
     all_goals refine a6 (by rw[hC];exact hki.flat rfl rfl) ?_
     all_goals repeat' (first|(simp (disch:=first|exact bd (by with_unfolding_all rfl)|(simp only[d6]<;>omega)) only[WA,Nat.reduceEqDiff,Nat.reduceLT,↓reduceIte,reduceCtorEq,hsz,hs3,h6i,h7i,h8i]))
     all_goals try (exfalso;omega)
     all_goals refine l5 (by rw[hC];exact hct) rfl rfl (fun _=>rfl) ?_
     all_goals repeat' (first|(simp (disch:=first|omega|exact bd (by with_unfolding_all rfl)|fail) only[WA,Nat.reduceEqDiff,Nat.reduceLT,↓reduceIte,BE,dl0,List.length_cons,List.map_cons,h6i,h7i]))
     all_goals try (exfalso;omega)
     all_goals refine a6 (by rw[hC];exact hn0.flat rfl rfl) ?_
     all_goals repeat' (first|(simp (disch:=first|exact bd (by with_unfolding_all rfl)|(simp only[d6]<;>omega)) only[WA,Nat.reduceEqDiff,Nat.reduceLT,Nat.reduceAdd,↓reduceIte,O7]))
     all_goals exact R8 (s:=0) (n:=1) (X7 _ _ _ _ _ _ _ _ rfl) rfl (.inl (by decide)) h0 rfl
end
set_option maxHeartbeats 400000
theorem aA1:∀ L:List n8,T6 (r8 L)=true
 | []=>rfl
 |x::L=>by
  have:=aA1 L
  have e:r8 (x::L)= [.sc (.int .u8 x.kind),.sc (.bool x.purl),.sc (.int .i64 x.a),.sc (.int .i64 x.b)]++r8 L:=by simp[r8]
  rw[e]
  simpa [T6,JJ] using this
theorem jF (s:List UInt8):L2 (E3 s).1=0:=by
 unfold E3
 repeat' split
 all_goals first|rfl|(rename_i h;exact h.1)
theorem FC {t e n s:Nat} {z:Bool} {l:List D} {x:Value} (h:n=0↔l= []):bM [(0,.gro t e z l)] (.tup [.gr s 0 n,.sc x]):=by
 refine nJ ?_ (fun o ob ho=>by rw[(dF ho).2]) (fun o ob ho=>by rw[(dF ho).1];simp[Y1,eI])
 simp only[Cl,HB,and_true]
 exact ⟨t,e,z,l,rfl,h⟩
section
variable (w:World) (n:Nat)
theorem EL (s:List UInt8) (hs:s.length≤3000) (hne:s ≠ []) (L:List n8) (hL:E3 s=(L,0)):m6 (EN w (n+4)) 67 [m8 s] (.tup [.gr 2 0 L.length,.sc (.int .i64 0)]) ⟨[(0,.gro 48 4 false (r8 L))],1,0⟩:=by
 have hsz:=p8 s
 have hnt:((⟨s.toArray⟩:ByteArray)=⟨#[]⟩)=(s= []):=aH s []
 obtain ⟨hr,hall,hwr⟩:nD (n4 32 s) []=some L∧L2 L=0∧eM L=s:=by
  unfold E3 at hL
  rw[if_neg (by omega),if_neg hne] at hL
  cases hr:nD (n4 32 s) [] with
  |none=>rw[hr] at hL;cases hL
  |some M=>
   rw[hr] at hL
   simp only at hL
   by_cases h:L2 M=0∧eM M=s
   ·rw[if_pos h] at hL
    cases hL
    exact ⟨rfl,h⟩
   ·rw[if_neg h] at hL;cases hL
 have hsp:=aO3 w (n+2) s 32 (by omega)
 have hwl:=(Go.Itp.words_len (c:=32) s.length (s:=s) (Nat.le_refl _))
 generalize n4 32 s=q at*
 clear hL
 refine y9 rfl rfl (fun _ _=>rfl) (Nat.le_of_ble_eq_true rfl) (g9 w) (FC (by
  have:=z7 L
  constructor
  ·intro h;exact List.length_eq_zero_iff.1 (by omega)
  ·intro h;rw[h] at this;simp at this;omega)) rfl fun C hC h0=>?_
 have hrn:C.E.rounds=C6:=by rw[hC,k8]
 simp (disch:=first|omega|exact bd (by with_unfolding_all rfl)|fail) only[WA,Nat.reduceEqDiff,Nat.reduceLT,↓reduceIte,reduceCtorEq,c67,hsz,hnt,hne]
 all_goals try (exfalso;omega)
 refine l5 (by rw[hC];exact hsp) rfl rfl (fun _=>rfl) ?_
 repeat' (first|(simp (disch:=fail) only[WA,m7,s8,Nat.reduceEqDiff,Nat.reduceLT,Nat.reduceAdd,Nat.reduceBEq,Int.reduceAdd,Int.reduceSub,Int.reduceLT,Int.reduceLE,Int.reduceEq,Int.reduceNeg,↓reduceIte,reduceCtorEq,List.replicate])|apply A2|((first|apply J4|apply A9|apply E9|apply J5|apply J3|apply F3)<;>intro _))
 refine y6 (fun m fr st=>∃ (k:Nat) (acc:List n8),m=q.length - k∧k≤q.length∧acc.length≤200∧KP acc∧nD (q.drop k) acc=some L∧fr= [(0,m8 s),(4,.sl 2 q.length (q.map sD)),(5,.gr 2 0 acc.length),(6,.sc (.int .i64 k))]∧st=⟨[(0,.gro 48 4 false (r8 acc))],1,0⟩) q.length ?_ ⟨_,_,P0 5 48 4 rfl,0,[],by omega,Nat.zero_le _,Nat.zero_le _,(fun x hx=>by cases hx),hr,rfl,rfl⟩ ?_
 ·rw[hrn];unfold C6;omega
 rintro m fr st ⟨k,acc,rfl,hk,hal,hap,hraw,rfl,rfl⟩
 have hd:=z7 acc
 by_cases hlt:k<q.length
 ·have hqk:q.drop k=q[k]! ::q.drop (k+1):=by rw[List.drop_eq_getElem_cons hlt,getElem!_pos q k hlt]
  have hpl:=hwl.2 q[k]! (by rw[getElem!_pos q k hlt];exact List.getElem_mem hlt)
  have hwd:=bY9 w (n+1) q[k]! (by omega)
  have hwk:=WL q[k]!
  have hwlen:=aK9 q[k]!
  rw[hqk,nD] at hraw
  generalize hp:q[k]! =p at*
  generalize mF p=R at*
  obtain ⟨M,b⟩:=R
  simp only at hraw hwk hwlen hwd
  have hdL:=z7 M
  by_cases hb:b=true
  case neg=>rw[if_neg hb] at hraw;cases hraw
  rw[if_pos hb] at hraw
  subst hb
  have hsa:=aZ5 acc M
  have hokL:=aA1 M
  have hso:∀ H:E4,R5 H 4 (.sl 3 M.length (r8 M))=some (M.length,r8 M,[]):=fun H=>zQ H 4 3 M.length (r8 M) hdL
  by_cases hgt:200<(acc++M).length
  ·rw[if_pos hgt] at hraw;cases hraw
  rw[if_neg hgt] at hraw
  rw[List.length_append] at hgt
  unfold bQ8 at hwd
  simp only at hwd
  generalize r8 acc=AD at*
  generalize r8 M=LD at*
  simp (disch:=first|omega|exact bd (by with_unfolding_all rfl)|fail) only[WA,Nat.reduceEqDiff,Nat.reduceLT,↓reduceIte,reduceCtorEq,aN2,hp]
  all_goals try (exfalso;omega)
  refine l5 (by rw[hC];exact hwd) rfl rfl (fun _=>rfl) ?_
  simp (disch:=first|omega|exact bd (by with_unfolding_all rfl)|fail) only[WA,Nat.reduceEqDiff,Nat.reduceLT,Nat.reduceAdd,↓reduceIte,reduceCtorEq,hso,hokL,S3]
  all_goals try (exfalso;omega)
  refine ⟨q.length - (k+1),_,_,by omega,s9 [(1,0)] 1 h0 rfl rfl rfl rfl,k+1,acc++M,rfl,by omega,by rw[List.length_append];omega,fun x hx=>?_,hraw,by rw[List.length_append];rfl,by rw[hsa];rfl⟩
  rcases List.mem_append.1 hx with hx|hx
  ·exact hap x hx
  ·exact hwk x hx
 ·have:k=q.length:=by omega
  subst this
  rw[List.drop_length,nD] at hraw
  obtain rfl:=Option.some.inj hraw
  have ha:=bW0 w n 2 acc (by omega) hap
  rw[hall] at ha
  have hwr1:=aL2 w n 2 acc hal (T7 hall).2.1
  rw[hwr] at hwr1
  have h1:∀ st:l8,f8 st.own 0=some (.gro 48 4 false (r8 acc))→J7 st.own [.gr 2 0 acc.length]=some [.sl 2 acc.length (r8 acc)]:=fun st h=>FQ (cG h hd)
  simp (disch:=first|omega|exact bd (by with_unfolding_all rfl)|fail) only[WA,Nat.reduceEqDiff,Nat.reduceLT,↓reduceIte,reduceCtorEq,aN2]
  all_goals try (exfalso;omega)
  refine a6 (by rw[hC];exact ha.flat rfl (h1 _ rfl)) ?_
  simp (disch:=first|exact bd (by with_unfolding_all rfl)|fail) only[WA,Nat.reduceEqDiff,Nat.reduceLT,↓reduceIte,reduceCtorEq]
  refine a6 (by rw[hC];exact hwr1.flat rfl (h1 _ rfl)) ?_
  simp (disch:=first|exact bd (by with_unfolding_all rfl)|fail) only[WA,Nat.reduceEqDiff,Nat.reduceLT,↓reduceIte,reduceCtorEq]
  exact s9 [(0,0)] 1 h0 rfl rfl rfl rfl
end
section
variable (w:World) (n:Nat)
end
def bZ:Option (n8 × Int)→V
 |none=> .tup [nN uE,.sc (.int .i64 0)]
 |some (x,m)=> .tup [nN x,.sc (.int .i64 m)]
section
variable (w:World) (n:Nat)
end
section
variable (w:World) (n:Nat)
end
abbrev QK (b:Bool) (s:Nat) (L:List n8):V:= .agg [.sc (.bool b),.sl s L.length (r8 L)]
theorem aS5 (b:Bool) (z:Int) (r:List UInt8):aN b z++r= [114,111,119,32]++(Lib.itoa z++([32,40]++(W3 b++([41,58,32]++r)))):=by simp[aN,aH7,lK]
theorem TO {L:List n8} (h:(B5 L).2=0):(B5 L).1.length≤2000:=by
 have h4:=(Y7 h).2
 rw[h4]
 unfold B5 at h h4
 split at h
 ·split at h
  ·exact absurd h (by decide)
  ·show (A6 L).length≤2000
   omega
 ·rename_i e
  exact absurd h e
theorem DB (b:Bool):(W3 b).length≤5:=by cases b<;>decide
theorem bS4:TZ false (.sc (.bool false)) (.sc (.bool false))=some (.sc (.bool true)):=(rfl)
theorem bS7:TZ false (.sc (.bool true)) (.sc (.bool true))=some (.sc (.bool true)):=(rfl)
theorem bS5:TZ false (.sc (.bool false)) (.sc (.bool true))=some (.sc (.bool false)):=(rfl)
theorem bS6:TZ false (.sc (.bool true)) (.sc (.bool false))=some (.sc (.bool false)):=(rfl)
section
variable (w:World) (n:Nat)
theorem aP8 (b:Bool):m6 (EN w (n+1)) 36 [.sc (.bool b)] (m8 (W3 b)) ⟨[],0,0⟩:=by
 cases b
 all_goals
  refine d7 rfl rfl (fun _ _=>rfl) (Nat.le_of_ble_eq_true rfl) (g9 w) rfl fun C hC h0=>?_
  repeat' (first|(simp (disch:=first|omega|assumption|exact bd (by with_unfolding_all rfl)|exact Or.inl rfl|(simp only[d6]<;>omega)|fail) only[WA,Nat.reduceEqDiff,Nat.reduceLT,↓reduceIte,reduceCtorEq,c36]))
  exact b8 rfl h0 rfl
theorem ZY (b:Bool) (s:Nat) (L:List n8) (z:Int) (hL:L.length≤140737488351232) (hK:KP L):m6 (EN w (n+8)) 15 [QK b s L,.sc (.int .i64 z)] (.tup [m8 (C7 b L z).1,.sc (.int .i64 (C7 b L z).2)]) ⟨[],0,0⟩:=by
 have ha:=JV w (n+1) s L hL hK
 have hc:=WZ w n s L hL hK
 have hf:=aP8 w (n+6) b
 have hfl:=DB b
 have hcl:=TO (L:=L)
 unfold C7
 by_cases h0:L2 L=0
 case neg=>
  rw[if_neg h0]
  generalize L2 L=e at*
  refine d7 rfl rfl (fun _ _=>rfl) (Nat.le_of_ble_eq_true rfl) (g9 w) rfl fun C hC h0=>?_
  simp (disch:=first|omega|assumption|exact bd (by with_unfolding_all rfl)|exact Or.inl rfl|(simp only[d6]<;>omega)|fail) only[WA,Nat.reduceEqDiff,Nat.reduceLT,↓reduceIte,reduceCtorEq,c15]
  refine a6 (by rw[hC];exact ha.flat rfl rfl) ?_
  simp (disch:=first|omega|assumption|exact bd (by with_unfolding_all rfl)|exact Or.inl rfl|(simp only[d6]<;>omega)|fail) only[WA,Nat.reduceEqDiff,Nat.reduceLT,↓reduceIte]
  all_goals try (exfalso;omega)
  exact b8 rfl h0 rfl
 rw[h0] at ha
 rw[if_pos h0]
 by_cases h1:z<1∨100<z
 ·rw[if_pos h1]
  refine d7 rfl rfl (fun _ _=>rfl) (Nat.le_of_ble_eq_true rfl) (g9 w) rfl fun C hC h0=>?_
  rcases h1 with h1|h1
  all_goals
   repeat' (first|(simp (disch:=first|omega|assumption|exact bd (by with_unfolding_all rfl)|exact Or.inl rfl|(simp only[d6]<;>omega)|fail) only[WA,Nat.reduceEqDiff,Nat.reduceLT,↓reduceIte,reduceCtorEq,c15]))
   refine a6 (by rw[hC];exact ha.flat rfl rfl) ?_
   repeat' (first|(simp (disch:=first|omega|assumption|exact bd (by with_unfolding_all rfl)|exact Or.inl rfl|(simp only[d6]<;>omega)|fail) only[WA,Nat.reduceEqDiff,Nat.reduceLT,↓reduceIte]))
   all_goals try (exfalso;omega)
   exact b8 rfl h0 rfl
 rw[if_neg h1]
 by_cases h2:(B5 L).2=0
 ·rw[if_pos h2]
  have hi:=fun st=>UK w (n+6) st z (by omega) (by omega)
  have hil:=F6 (z:=z) (by omega) (by omega)
  have hcl:=hcl h2
  rw[h2] at hc
  generalize (B5 L).1=W at*
  rw[List.append_assoc,aS5]
  generalize Lib.itoa z=A at*
  generalize W3 b=F at*
  refine d7 rfl rfl (fun _ _=>rfl) (Nat.le_of_ble_eq_true rfl) (g9 w) rfl fun C hC h0=>?_
  simp (disch:=first|omega|assumption|exact bd (by with_unfolding_all rfl)|exact Or.inl rfl|(simp only[d6]<;>omega)|fail) only[WA,Nat.reduceEqDiff,Nat.reduceLT,↓reduceIte,reduceCtorEq,c15]
  refine a6 (by rw[hC];exact ha.flat rfl rfl) ?_
  simp (disch:=first|omega|assumption|exact bd (by with_unfolding_all rfl)|exact Or.inl rfl|(simp only[d6]<;>omega)|fail) only[WA,Nat.reduceEqDiff,Nat.reduceLT,↓reduceIte]
  all_goals try (exfalso;omega)
  refine a6 (by rw[hC];exact hc.flat rfl rfl) ?_
  simp (disch:=first|omega|assumption|exact bd (by with_unfolding_all rfl)|exact Or.inl rfl|(simp only[d6]<;>omega)|fail) only[WA,m7,s8,Nat.reduceEqDiff,Nat.reduceLT,Nat.reduceAdd,↓reduceIte]
  all_goals try (exfalso;omega)
  refine Q4 (by rw[hC];exact hi _) ?_
  simp (disch:=first|omega|assumption|exact bd (by with_unfolding_all rfl)|exact Or.inl rfl|(simp only[d6]<;>omega)|fail) only[WA,m7,s8,Nat.reduceEqDiff,Nat.reduceLT,Nat.reduceAdd,↓reduceIte,K5,List.append_assoc]
  all_goals try (exfalso;omega)
  refine Q4 (by rw[hC];exact hf.flat rfl rfl) ?_
  simp (disch:=first|omega|assumption|exact bd (by with_unfolding_all rfl)|exact Or.inl rfl|(simp only[d6]<;>omega)|fail) only[WA,m7,s8,Nat.reduceEqDiff,Nat.reduceLT,↓reduceIte,K5,List.append_assoc]
  all_goals try (exfalso;omega)
  exact b8 rfl h0 rfl
 ·rw[if_neg h2]
  generalize (B5 L).2=e at*
  generalize (B5 L).1=W at*
  refine d7 rfl rfl (fun _ _=>rfl) (Nat.le_of_ble_eq_true rfl) (g9 w) rfl fun C hC h0=>?_
  simp (disch:=first|omega|assumption|exact bd (by with_unfolding_all rfl)|exact Or.inl rfl|(simp only[d6]<;>omega)|fail) only[WA,Nat.reduceEqDiff,Nat.reduceLT,↓reduceIte,reduceCtorEq,c15]
  refine a6 (by rw[hC];exact ha.flat rfl rfl) ?_
  simp (disch:=first|omega|assumption|exact bd (by with_unfolding_all rfl)|exact Or.inl rfl|(simp only[d6]<;>omega)|fail) only[WA,Nat.reduceEqDiff,Nat.reduceLT,↓reduceIte]
  all_goals try (exfalso;omega)
  refine a6 (by rw[hC];exact hc.flat rfl rfl) ?_
  simp (disch:=first|omega|assumption|exact bd (by with_unfolding_all rfl)|exact Or.inl rfl|(simp only[d6]<;>omega)|fail) only[WA,Nat.reduceEqDiff,Nat.reduceLT,↓reduceIte]
  all_goals try (exfalso;omega)
  exact b8 rfl h0 rfl
theorem aH9 (b c:Bool) (s t:Nat) (L M:List n8) (hL:L.length≤140737488351232) (hM:M.length≤140737488351232):m6 (EN w (n+2)) 19 [QK b s L,QK c t M] (.sc (.bool (decide (b=c∧L=M)))) ⟨[],0,0⟩:=by
 have hs:=pS w n s t L M hL hM
 cases b<;>cases c
 all_goals
  simp only[true_and,reduceCtorEq,false_and,decide_false]
  generalize decide (L=M)=d at*
  refine d7 rfl rfl (fun _ _=>rfl) (Nat.le_of_ble_eq_true rfl) (g9 w) rfl fun C hC h0=>?_
  repeat' (first|(simp (disch:=first|omega|assumption|exact bd (by with_unfolding_all rfl)|exact Or.inl rfl|(simp only[d6]<;>omega)|fail) only[WA,Nat.reduceEqDiff,Nat.reduceLT,Nat.reduceAdd,↓reduceIte,reduceCtorEq,c19,bS4,bS7,bS5,bS6]))
  all_goals try refine a6 (by rw[hC];exact hs.flat rfl rfl) ?_
  all_goals try repeat' (first|(simp (disch:=first|omega|assumption|exact bd (by with_unfolding_all rfl)|exact Or.inl rfl|(simp only[d6]<;>omega)|fail) only[WA,m7,s8,Nat.reduceEqDiff,Nat.reduceLT,Nat.reduceAdd,Nat.reduceBEq,Int.reduceAdd,Int.reduceSub,Int.reduceLT,Int.reduceLE,Int.reduceEq,Int.reduceNeg,↓reduceIte,reduceCtorEq,List.replicate])|apply A2|((first|apply J4|apply A9|apply E9|apply J5|apply J3|apply F3)<;>intro _))
  all_goals exact b8 rfl h0 rfl
end
theorem jW {C:C5} {st:l8} {b x y:Value} (h0:C.w0.nx=0) (hro:st.ro=0):M3 C [(0,.tup [.agg [.sc b,.sc (.slice none 0 0)],.sc x,.sc y])] st [(0,.tup [.agg [.sc b,.sl 3 0 []],.sc x,.sc y])] ⟨[],0,0⟩:=
 (M2 (t:=0) (v:= .tup [.agg [.sc b,.sc (.slice none 0 0)],.sc x,.sc y]) (v':= .tup [.agg [.sc b,.sl 3 0 []],.sc x,.sc y]) rfl (zF (.cons (zE (.cons (.refl _) (.cons kZ .nil))) (.cons (.refl _) (.cons (.refl _) .nil))))).trans (s9 [] 0 h0 hro rfl rfl rfl)
theorem FB {b x y:Value} {n:Nat} {l:List D}:bM [] (.tup [.agg [.sc b,.sl 3 n l],.sc x,.sc y]):=eC (by simp only[Cl,HB,and_true];exact ⟨trivial,rfl⟩)
def EP:Option (Bool × List n8 × Int)→V
 |none=> .tup [QK false 3 [],.sc (.int .i64 0),.sc (.int .i64 12)]
 |some (b,L,m)=> .tup [QK b 3 L,.sc (.int .i64 m),.sc (.int .i64 0)]
theorem VA (s:List UInt8):L2 (M5 s).1=0:=by
 unfold M5
 cases h:cV s with
 |none=>rfl
 |some L=>
  have h1:=JM h
  by_cases e:L2 L=0
  ·exact e
  ·unfold B5 at h1
   rw[if_neg e] at h1
   exact absurd (congrArg Prod.snd h1) e
theorem nX {L:List n8} (h:L2 L=0):KP L:=fun x hx=>by
 have:=(D6.1 (List.all_eq_true.1 (T7 h).2.1 x hx)).bounds
 omega
abbrev bW4 (x y:V):Go.Itp.Obj:= .box 36 1 [x,y]
abbrev ZX:Go.Itp.Obj:=bW4 (.sc (.bool false)) (.sc (.slice none 0 0))
section
variable (w:World) (n:Nat)
theorem VI {C:C5} (hC:C.E=EN w (n+9)) (s c:List UInt8) (hs:s.length≤100000) (hc:c.length≤100000) (v:Int) (b:Bool) (j:Int) (hj:(j=0∧b=false)∨(j=1∧b=true)) {P:A8}
  (hgo:lH b v c s=none→∀ st,(st=⟨[(0,ZX)],1,0⟩∨∃ x y,st=⟨[(1,bW4 x y),(0,ZX)],2,0⟩)→P .normal [(0,m8 s),(2,.ptr 0 0),(5,.sl 3 1 [iD v]),(8,m8 c),(37,.agg [.sc (.bool false),.sc (.bool true)]),(38,.sc (.int .i64 (j+1)))] st)
  (hret:∀ fr st L,lH b v c s=some (b,L,v)→f8 fr 2=some (.ptr 0 0)→f8 fr 3=some (.sc (.int .i64 v))→f8 fr 4=some (.sc (.int .i64 0))→f8 st.own 0=some (bW4 (.sc (.bool b)) (.sl 3 L.length (r8 L)))→st.ro=0→P .ret fr st):
  gC C sQ [] [(0,m8 s),(2,.ptr 0 0),(5,.sl 3 1 [iD v]),(8,m8 c),(37,.agg [.sc (.bool false),.sc (.bool true)]),(38,.sc (.int .i64 j))] ⟨[(0,ZX)],1,0⟩ P:=by
 have hix:wY 2 1 none (.agg [.sc (.bool false),.sc (.bool true)]) (.sc (.int .i64 j))=some (.sc (.bool b)):=by rcases hj with ⟨rfl,rfl⟩|⟨rfl,rfl⟩<;>rfl
 have hjb:0≤j∧j≤1:=by omega
 clear hj
 have hf:=aP8 w (n+8) b
 have hfl:=DB b
 have hcp:=vU w (n+6) c (W3 b++ [41,58,32]) (by omega)
 have htry:lH b v c s=match x9 (W3 b++ [41,58,32]) c with
  |none=>none
  |some t=>if (M5 t).2=0∧C7 b (M5 t).1 v=(s,0) then some (b,(M5 t).1,v) else none:=rfl
 rw[htry] at hgo hret
 cases hcc:x9 (W3 b++ [41,58,32]) c with
 |none=>
  rw[hcc] at hcp hgo
  clear hret htry hcc
  have hgo:=hgo rfl _ (.inl rfl)
  generalize W3 b=F at*
  simp (disch:=first|omega|exact bd (by with_unfolding_all rfl)|fail) only[WA,Nat.reduceEqDiff,Nat.reduceLT,↓reduceIte,reduceCtorEq,sQ,hix]
  refine a6 (by rw[hC];exact hf.flat rfl rfl) ?_
  simp (disch:=first|exact bd (by with_unfolding_all rfl)|(simp only[d6]<;>omega)) only[WA,Nat.reduceEqDiff,Nat.reduceLT,↓reduceIte,reduceCtorEq,K5]
  all_goals try (exfalso;omega)
  refine a6 (by rw[hC];exact hcp.flat rfl rfl) ?_
  simp (disch:=first|omega|exact bd (by with_unfolding_all rfl)|fail) only[WA,Nat.reduceEqDiff,Nat.reduceLT,↓reduceIte,reduceCtorEq,Option.isSome_none,Option.getD_none]
  exact hgo
 |some t=>
  have hle:=aZ hcc
  have htl:t.length≤c.length:=by rw[hle.2,List.length_drop];omega
  rw[hcc] at hcp hgo hret
  clear hle hcc htry
  have ha:=VA t
  have hpc:=yH w n t (by omega)
  have hrw:=ZY w (n+1) b 3 (M5 t).1 v (by have:=(T7 ha).1;omega) (nX ha)
  clear ha
  simp only at hgo hret
  generalize M5 t=q at*
  obtain ⟨L,e⟩:=q
  simp only at hgo hret hpc hrw
  have hd:=z7 L
  have hmj:((⟨(C7 b L v).1.toArray⟩:ByteArray)=⟨s.toArray⟩)=((C7 b L v).1=s):=aH _ _
  generalize W3 b=F at*
  by_cases he:e=0∧C7 b L v=(s,0)
  ·rw[if_pos he] at hret
   obtain ⟨rfl,h2⟩:=he
   rw[h2] at hrw
   have hret:=fun fr st=>hret fr st L rfl
   clear hgo hmj h2
   simp (disch:=first|omega|exact bd (by with_unfolding_all rfl)|fail) only[WA,Nat.reduceEqDiff,Nat.reduceLT,↓reduceIte,reduceCtorEq,sQ,hix]
   refine a6 (by rw[hC];exact hf.flat rfl rfl) ?_
   simp (disch:=first|exact bd (by with_unfolding_all rfl)|(simp only[d6]<;>omega)) only[WA,Nat.reduceEqDiff,Nat.reduceLT,↓reduceIte,reduceCtorEq,K5]
   all_goals try (exfalso;omega)
   refine a6 (by rw[hC];exact hcp.flat rfl rfl) ?_
   simp (disch:=first|exact bd (by with_unfolding_all rfl)|fail) only[WA,Nat.reduceEqDiff,Nat.reduceLT,↓reduceIte,reduceCtorEq,Option.isSome_some,Option.getD_some]
   refine l5 (by rw[hC];exact hpc) rfl rfl (fun _=>rfl) ?_
   simp (disch:=first|omega|exact bd (by with_unfolding_all rfl)|(simp only[d6]<;>omega)) only[WA,m7,s8,Nat.reduceEqDiff,Nat.reduceLT,Nat.reduceAdd,↓reduceIte,reduceCtorEq,List.replicate,BE,dl1]
   refine Q4 (by rw[hC];exact hrw.flat rfl rfl) ?_
   repeat' (first|(simp (disch:=first|omega|exact bd (by with_unfolding_all rfl)|(simp only[d6]<;>omega)) only[WA,m7,s8,Nat.reduceEqDiff,Nat.reduceLT,↓reduceIte,reduceCtorEq,BE,dl1,aJ4,TX,bF7])|apply A2)
   exact hret _ _ rfl rfl rfl rfl rfl
  ·have hg:=fun x y=>hgo (if_neg he) _ (.inr ⟨x,y,rfl⟩)
   clear hgo hret
   have he:¬ (e=0∧(C7 b L v).2=0∧(C7 b L v).1=s):=fun h=>he ⟨h.1,Prod.ext h.2.2 h.2.1⟩
   generalize C7 b L v=r at*
   obtain ⟨T,g⟩:=r
   simp only at he hrw hmj
   by_cases h1:e=0
   ·by_cases h2:g=0
    ·have h3:¬ T=s:=fun h=>he ⟨h1,h2,h⟩
     subst h1 h2
     rw[eq_false h3] at hmj
     simp (disch:=first|omega|exact bd (by with_unfolding_all rfl)|fail) only[WA,Nat.reduceEqDiff,Nat.reduceLT,↓reduceIte,reduceCtorEq,sQ,hix]
     refine a6 (by rw[hC];exact hf.flat rfl rfl) ?_
     simp (disch:=first|exact bd (by with_unfolding_all rfl)|(simp only[d6]<;>omega)) only[WA,Nat.reduceEqDiff,Nat.reduceLT,↓reduceIte,reduceCtorEq,K5]
     all_goals try (exfalso;omega)
     refine a6 (by rw[hC];exact hcp.flat rfl rfl) ?_
     simp (disch:=first|exact bd (by with_unfolding_all rfl)|fail) only[WA,Nat.reduceEqDiff,Nat.reduceLT,↓reduceIte,reduceCtorEq,Option.isSome_some,Option.getD_some]
     refine l5 (by rw[hC];exact hpc) rfl rfl (fun _=>rfl) ?_
     simp (disch:=first|omega|exact bd (by with_unfolding_all rfl)|(simp only[d6]<;>omega)) only[WA,m7,s8,Nat.reduceEqDiff,Nat.reduceLT,Nat.reduceAdd,↓reduceIte,reduceCtorEq,List.replicate,BE,dl1]
     refine Q4 (by rw[hC];exact hrw.flat rfl rfl) ?_
     simp (disch:=first|omega|exact bd (by with_unfolding_all rfl)|(simp only[d6]<;>omega)) only[WA,m7,s8,Nat.reduceEqDiff,Nat.reduceLT,↓reduceIte,reduceCtorEq,hmj]
     exact hg _ _
    ·subst h1
     simp (disch:=first|omega|exact bd (by with_unfolding_all rfl)|fail) only[WA,Nat.reduceEqDiff,Nat.reduceLT,↓reduceIte,reduceCtorEq,sQ,hix]
     refine a6 (by rw[hC];exact hf.flat rfl rfl) ?_
     simp (disch:=first|exact bd (by with_unfolding_all rfl)|(simp only[d6]<;>omega)) only[WA,Nat.reduceEqDiff,Nat.reduceLT,↓reduceIte,reduceCtorEq,K5]
     all_goals try (exfalso;omega)
     refine a6 (by rw[hC];exact hcp.flat rfl rfl) ?_
     simp (disch:=first|exact bd (by with_unfolding_all rfl)|fail) only[WA,Nat.reduceEqDiff,Nat.reduceLT,↓reduceIte,reduceCtorEq,Option.isSome_some,Option.getD_some]
     refine l5 (by rw[hC];exact hpc) rfl rfl (fun _=>rfl) ?_
     simp (disch:=first|omega|exact bd (by with_unfolding_all rfl)|(simp only[d6]<;>omega)) only[WA,m7,s8,Nat.reduceEqDiff,Nat.reduceLT,Nat.reduceAdd,↓reduceIte,reduceCtorEq,List.replicate,BE,dl1]
     refine Q4 (by rw[hC];exact hrw.flat rfl rfl) ?_
     simp (disch:=first|omega|exact bd (by with_unfolding_all rfl)|(simp only[d6]<;>omega)) only[WA,m7,s8,Nat.reduceEqDiff,Nat.reduceLT,↓reduceIte,reduceCtorEq,h2]
     exact hg _ _
   ·simp (disch:=first|omega|exact bd (by with_unfolding_all rfl)|fail) only[WA,Nat.reduceEqDiff,Nat.reduceLT,↓reduceIte,reduceCtorEq,sQ,hix]
    refine a6 (by rw[hC];exact hf.flat rfl rfl) ?_
    simp (disch:=first|exact bd (by with_unfolding_all rfl)|(simp only[d6]<;>omega)) only[WA,Nat.reduceEqDiff,Nat.reduceLT,↓reduceIte,reduceCtorEq,K5]
    all_goals try (exfalso;omega)
    refine a6 (by rw[hC];exact hcp.flat rfl rfl) ?_
    simp (disch:=first|exact bd (by with_unfolding_all rfl)|fail) only[WA,Nat.reduceEqDiff,Nat.reduceLT,↓reduceIte,reduceCtorEq,Option.isSome_some,Option.getD_some]
    refine l5 (by rw[hC];exact hpc) rfl rfl (fun _=>rfl) ?_
    simp (disch:=first|omega|exact bd (by with_unfolding_all rfl)|(simp only[d6]<;>omega)) only[WA,m7,s8,Nat.reduceEqDiff,Nat.reduceLT,Nat.reduceAdd,↓reduceIte,reduceCtorEq,List.replicate,BE,dl1]
    refine Q4 (by rw[hC];exact hrw.flat rfl rfl) ?_
    simp (disch:=first|omega|exact bd (by with_unfolding_all rfl)|fail) only[WA,m7,s8,Nat.reduceEqDiff,Nat.reduceLT,↓reduceIte,reduceCtorEq,h1]
    exact hg _ _
theorem VH (s:List UInt8) (hs:s.length≤100000):m6 (EN w (n+10)) 17 [m8 s] (EP (dX s)) ⟨[],0,0⟩:=by
 have hm:=JB w (n+2) s [114,111,119,32,35,32,40] hs (by decide)
 rw[show n4 35 ([114,111,119,32,35,32,40]:List UInt8)= [JU,yG] from by decide+kernel] at hm
 have hlen:=fun m r (h:B7 [JU,yG] s=some (m,r))=>nA (f:= [JU,yG]) (by simp) h
 rw[← bI8]
 have hok:bM [] (EP (BP s)):=by
  rcases BP s with _|⟨a,b,c⟩
  ·exact FB
  ·exact FB
 have hun:BP s=match B7 [JU,yG] s with
  |none=>none
  |some (m,r)=>match J2 [46] r with
   |none=>none
   |some c=>match lH false (m.headD 0) c s with
    |some x=>some x
    |none=>lH true (m.headD 0) c s:=rfl
 generalize BP s=R at*
 cases hM:B7 [JU,yG] s with
 |none=>
  rw[hM] at hm hun
  have hcs:=vW w (n+6) [] [46] (by decide)
  rw[show J2 [46] ([]:List UInt8)=none from rfl] at hcs
  unfold jB at hm
  simp only at hun
  subst hun
  refine y9 rfl rfl (fun _ _=>rfl) (Nat.le_of_ble_eq_true rfl) (g9 w) hok rfl fun C hC h0=>?_
  simp (disch:=first|exact bd (by with_unfolding_all rfl)|fail) only[WA,Nat.reduceEqDiff,Nat.reduceLT,↓reduceIte,reduceCtorEq,List.replicate,c17]
  refine l5 (by rw[hC];exact hm) rfl rfl (fun _=>rfl) ?_
  simp (disch:=first|exact bd (by with_unfolding_all rfl)|fail) only[WA,Nat.reduceEqDiff,Nat.reduceLT,↓reduceIte,reduceCtorEq]
  refine a6 (by rw[hC];exact hcs.flat rfl rfl) ?_
  simp (disch:=first|omega|exact bd (by with_unfolding_all rfl)|(simp only[d6]<;>omega)) only[WA,Nat.reduceEqDiff,Nat.reduceLT,↓reduceIte,reduceCtorEq,Option.isSome_none,Option.getD_none]
  exact jW h0 rfl
 |some mr=>
  obtain ⟨m,r⟩:=mr
  have hl:=hlen m r hM
  rw[hM] at hm hun
  unfold jB at hm
  simp only at hun
  clear hlen hM
  obtain ⟨v,rfl⟩:∃ v,m= [v]:=by
   cases m with
   |nil=>simp at hl
   |cons a q=>cases q with
    |nil=>exact ⟨a,rfl⟩
    |cons b c=>simp at hl
  have hcs:=vW w (n+6) r [46] (by omega)
  cases hc:J2 [46] r with
  |none=>
   rw[hc] at hcs hun
   simp only at hun
   subst hun
   refine y9 rfl rfl (fun _ _=>rfl) (Nat.le_of_ble_eq_true rfl) (g9 w) hok rfl fun C hC h0=>?_
   simp (disch:=first|exact bd (by with_unfolding_all rfl)|fail) only[WA,Nat.reduceEqDiff,Nat.reduceLT,↓reduceIte,reduceCtorEq,List.replicate,c17]
   refine l5 (by rw[hC];exact hm) rfl rfl (fun _=>rfl) ?_
   simp (disch:=first|exact bd (by with_unfolding_all rfl)|fail) only[WA,Nat.reduceEqDiff,Nat.reduceLT,↓reduceIte,reduceCtorEq]
   refine a6 (by rw[hC];exact hcs.flat rfl rfl) ?_
   simp (disch:=first|omega|exact bd (by with_unfolding_all rfl)|(simp only[d6]<;>omega)) only[WA,Nat.reduceEqDiff,Nat.reduceLT,↓reduceIte,reduceCtorEq,Option.isSome_none,Option.getD_none]
   exact jW h0 rfl
  |some c=>
   have hcl:c.length≤r.length:=by
    have:=qQ hc
    rw[this.2,List.length_take]
    omega
   rw[hc] at hcs hun
   simp only[List.headD_cons] at hun
   refine y9 rfl rfl (fun _ _=>rfl) (Nat.le_of_ble_eq_true rfl) (g9 w) hok rfl fun C hC h0=>?_
   have hrn:C.E.rounds=C6:=by rw[hC,k8]
   simp (disch:=first|exact bd (by with_unfolding_all rfl)|fail) only[WA,Nat.reduceEqDiff,Nat.reduceLT,↓reduceIte,reduceCtorEq,List.replicate,c17]
   refine l5 (by rw[hC];exact hm) rfl rfl (fun _=>rfl) ?_
   simp (disch:=first|exact bd (by with_unfolding_all rfl)|fail) only[WA,Nat.reduceEqDiff,Nat.reduceLT,↓reduceIte,reduceCtorEq]
   refine a6 (by rw[hC];exact hcs.flat rfl rfl) ?_
   simp (disch:=first|exact bd (by with_unfolding_all rfl)|(simp only[d6]<;>omega)) only[WA,Nat.reduceEqDiff,Nat.reduceLT,↓reduceIte,reduceCtorEq,Option.isSome_some,Option.getD_some,List.map_cons,List.map_nil,List.length_cons,List.length_nil]
   have hround:=fun b j hj P=>VI w n hC s c hs (by omega) v b j hj (P:=P)
   refine y6 (fun m fr st=>∃ j:Int,(j=0∧m=2∨j=1∧m=1∧lH false v c s=none∨j=2∧m=0∧lH false v c s=none∧lH true v c s=none)∧fr= [(0,m8 s),(2,.ptr 0 0),(5,.sl 3 1 [iD v]),(8,m8 c),(37,.agg [.sc (.bool false),.sc (.bool true)]),(38,.sc (.int .i64 j))]∧st=⟨[(0,ZX)],1,0⟩) 2 ?_ ⟨_,_,.refl _ _,0,.inl ⟨rfl,rfl⟩,rfl,rfl⟩ ?_
   ·rw[hrn];unfold C6;omega
   rintro m fr st ⟨j,hj,rfl,rfl⟩
   rcases hj with ⟨rfl,rfl⟩|⟨rfl,rfl,h1⟩|⟨rfl,rfl,h1,h2⟩
   ·refine hround false 0 (.inl ⟨rfl,rfl⟩) _ (fun hn st hst=>?_) (fun fr st L hc e2 e3 e4 e5 e6=>?_)
    ·rcases hst with rfl|⟨x,y,rfl⟩
     all_goals
      repeat' (first|(simp (disch:=fail) only[WA,Int.reduceAdd]))
      exact ⟨1,_,_,by omega,s9 [(0,0)] 1 h0 rfl rfl rfl rfl,1,.inr (.inl ⟨rfl,rfl,hn⟩),rfl,rfl⟩
    ·rw[hc] at hun
     simp only at hun
     subst hun
     simp (disch:=fail) only[WA,e2,e3,e4,e5]
     exact s9 [] 0 h0 e6 rfl rfl rfl
   ·refine hround true 1 (.inr ⟨rfl,rfl⟩) _ (fun hn st hst=>?_) (fun fr st L hc e2 e3 e4 e5 e6=>?_)
    ·rcases hst with rfl|⟨x,y,rfl⟩
     all_goals
      repeat' (first|(simp (disch:=fail) only[WA,Int.reduceAdd]))
      exact ⟨0,_,_,by omega,s9 [(0,0)] 1 h0 rfl rfl rfl rfl,2,.inr (.inr ⟨rfl,rfl,h1,hn⟩),rfl,rfl⟩
    ·rw[h1,hc] at hun
     simp only at hun
     subst hun
     simp (disch:=fail) only[WA,e2,e3,e4,e5]
     exact s9 [] 0 h0 e6 rfl rfl rfl
   ·rw[h1,h2] at hun
    simp only at hun
    subst hun
    simp (disch:=first|omega|exact bd (by with_unfolding_all rfl)|(simp only[d6]<;>omega)) only[WA,Nat.reduceEqDiff,Nat.reduceLT,Int.reduceLT,↓reduceIte,reduceCtorEq,sQ]
    exact jW h0 rfl
end
section
variable (w:World) (n:Nat)
end
set_option maxHeartbeats 1000000
section
variable (w:World) (n:Nat)
def ZZ (b:Nat) (p:V):Prop:=p= .sc (.pointer none)∨p= .ptr b 0
theorem MA {C:C5} {st:l8} {Q:V→l8→Prop} (hC:C.E=EN w (n+2)) (b e:Nat) (p g:V) (hb:f8 st.own b=some (.box 83 e [p,g])) (hp:ZZ b p) (hro:st.ro≤b)
  (hq:Q (.tup []) ⟨A3 st.own b (.box 83 e [.ptr b 0,g]),st.next,st.ro⟩):W2 C 68 [.ptr b 0] st Q:=by
 refine HU hC rfl rfl (fun _ _=>rfl) (Nat.le_of_ble_eq_true rfl) hq fun C' hC' hn=>?_
 obtain ⟨H,nx,ro⟩:=st
 have h2:(2:Nat)≤ [p,g].length:=Nat.le_refl _
 rcases hp with rfl|rfl
 ·simp (disch:=first|omega|exact bd (by with_unfolding_all rfl)|fail) only[WA,Nat.reduceEqDiff,Nat.reduceLT,↓reduceIte,reduceCtorEq,c68,hb,mS,wE]
  refine TH hC' (fun x s=>?_) ?_
  ·show PR w _ [x] s=some (x,[])
   rfl
  simp (disch:=first|omega|exact bd (by with_unfolding_all rfl)|fail) only[WA,Nat.reduceEqDiff,Nat.reduceLT,↓reduceIte,reduceCtorEq,hb,mS]
  exact .refl _ _
 ·have hs:A3 H b (.box 83 e [.ptr b 0,g])=H:=CB _ _ _ hb
  simp (disch:=first|omega|exact bd (by with_unfolding_all rfl)|fail) only[WA,Nat.reduceEqDiff,Nat.reduceLT,↓reduceIte,reduceCtorEq,c68,hb,MP,mS,wE]
  rw[hs]
  exact .refl _ _
theorem BV {C:C5} {st:l8} {Q:V→l8→Prop} (hC:C.E=EN w (n+3)) (b r:Nat) (p:V) (acc s:ByteArray) (hb:f8 st.own b=some (.box 83 1 [p,.gr 2 r acc.size])) (hr:f8 st.own r=some (.gro 5 1 false (eE acc))) (hp:ZZ b p) (hro:st.ro≤b) (hro2:st.ro≤r) (hrb:r ≠ b) (hlt:b ≠ st.next)
  (hsz:acc.size+s.size≤1099511627776) (hq:Q (.tup [.sc (.int .i64 s.size),.sc .nilIface]) ⟨(st.next,.gro 5 1 false (eE (acc++s)))::A3 (H9 r st.own) b (.box 83 1 [.ptr b 0,.gr 2 st.next (acc.size+s.size)]),st.next+1,st.ro⟩):
  W2 C 44 [.ptr b 0,.sc (.string s)] st Q:=by
 refine HU hC rfl rfl (fun _ _=>rfl) (Nat.le_of_ble_eq_true rfl) hq fun C' hC' hn=>?_
 obtain ⟨H,nx,ro⟩:=st
 have h1:=zW acc
 have h2:=bK5 s
 have a1:f8 (A3 H b (.box 83 1 [.ptr b 0,.gr 2 r acc.size])) b=some (.box 83 1 [.ptr b 0,.gr 2 r acc.size]):=eP hb
 have a2:f8 (A3 H b (.box 83 1 [.ptr b 0,.gr 2 r acc.size])) r=some (.gro 5 1 false (eE acc)):=by rw[O3 _ _ _ _ _ hb,if_neg hrb];exact hr
 have hbr:¬ b=r:=fun e=>hrb e.symm
 have a3:f8 (H9 r (A3 H b (.box 83 1 [.ptr b 0,.gr 2 r acc.size]))) b=some (.box 83 1 [.ptr b 0,.gr 2 r acc.size]):=by rw[G9,if_neg hbr];exact a1
 simp (disch:=first|exact bd (by with_unfolding_all rfl)|fail) only[WA,Nat.reduceEqDiff,Nat.reduceLT,↓reduceIte,reduceCtorEq,c44]
 refine MA w n hC' b 1 p _ hb hp hro ?_
 simp (disch:=first|omega|exact bd (by with_unfolding_all rfl)|(simp only[d6]<;>omega)) only[WA,Nat.reduceEqDiff,Nat.reduceLT,↓reduceIte,reduceCtorEq,a1,a2,a3,sC,bK4,hbr,hlt,RD,S3]
 rw[qJ _ _ _ _ hrb,kF]
 exact .refl _ _
theorem aZ7 {C:C5} {st:l8} {Q:V→l8→Prop} (hC:C.E=EN w (n+1)) (b r:Nat) (p:V) (acc:ByteArray) (hb:f8 st.own b=some (.box 83 1 [p,.gr 2 r acc.size])) (hr:f8 st.own r=some (.gro 5 1 false (eE acc))) (hro:st.ro≤b) (hro2:st.ro≤r)
  (hsz:acc.size≤1099511627776) (hq:∀ st',st'.ro=st.ro→Q (.sc (.string acc)) st'):W2 C 46 [.ptr b 0] st Q:=by
 obtain ⟨H,nx,ro⟩:=st
 by_cases h0:acc.size=0
 ·rw[h0] at hb
  have hs:acc=ByteArray.empty:=by
   apply ByteArray.ext;apply Array.ext'
   rw[List.eq_nil_of_length_eq_zero (show acc.data.toList.length=0 by simpa using h0)]
   rfl
  refine aN5 (st':=⟨A3 H b (.box 83 1 [p,.sc (.slice none 0 0)]),nx,ro⟩) hC rfl rfl (fun _ _=>rfl) (Nat.le_of_ble_eq_true rfl) (hq ⟨A3 H b (.box 83 1 [p,.sc (.slice none 0 0)]),nx,ro⟩ rfl) (fun C' hn=>?_) fun C' hC' hn=>?_
  ·exact GW (C:=C') (st:=⟨H,nx,ro⟩) (k:=1) hb rfl aY7
  have a1:f8 (A3 H b (.box 83 1 [p,.sc (.slice none 0 0)])) b=some (.box 83 1 [p,.sc (.slice none 0 0)]):=eP hb
  rw[hs]
  simp (disch:=first|exact bd (by with_unfolding_all rfl)|fail) only[WA,m7,s8,Nat.reduceEqDiff,Nat.reduceLT,↓reduceIte,reduceCtorEq,c46,a1,aK4]
  exact .refl _ _
 ·refine HU hC rfl rfl (fun _ _=>rfl) (Nat.le_of_ble_eq_true rfl) (hq ⟨H9 r H,nx,ro⟩ rfl) fun C' hC' hn=>?_
  have hv:=aK3 ⟨H,nx,ro⟩ 5 1 r acc hr hro2 (by omega) hsz
  simp (disch:=first|omega|exact bd (by with_unfolding_all rfl)|fail) only[WA,m7,s8,Nat.reduceEqDiff,Nat.reduceLT,↓reduceIte,reduceCtorEq,c46,hb,h0,hv]
  exact .refl _ _
theorem bD1 {C:C5} {st:l8} {Q:V→l8→Prop} (hC:C.E=EN w (n+3)) (b r:Nat) (p:V) (l x:List UInt8) (hb:f8 st.own b=some (.box 83 1 [p,.gr 2 r l.length])) (hr:f8 st.own r=some (.gro 5 1 false (eE ⟨l.toArray⟩))) (hp:ZZ b p) (hro:st.ro≤b) (hro2:st.ro≤r) (hrb:r ≠ b) (hlt:b ≠ st.next)
  (hsz:l.length+x.length≤1099511627776) (hq:Q (.tup [.sc (.int .i64 x.length),.sc .nilIface]) ⟨(st.next,.gro 5 1 false (eE ⟨(l++x).toArray⟩))::A3 (H9 r st.own) b (.box 83 1 [.ptr b 0,.gr 2 st.next (l.length+x.length)]),st.next+1,st.ro⟩):
  W2 C 44 [.ptr b 0,m8 x] st Q:=by
 have h1:=p8 l
 have h2:=p8 x
 have h3:(ByteArray.mk l.toArray)++(ByteArray.mk x.toArray)=⟨(l++x).toArray⟩:=by
  apply ByteArray.ext;apply Array.ext'
  rw[ByteArray.data_append,Array.toList_append]
 refine BV w n hC b r p ⟨l.toArray⟩ ⟨x.toArray⟩ (by rw[h1];exact hb) hr hp hro hro2 hrb hlt (by rw[h1,h2];exact hsz) ?_
 rw[h1,h2,h3]
 exact hq
theorem bR6 (st:l8) (b e r m:Nat) (p:V) (hb:f8 st.own b=some (.box 83 e [p,.gr 2 r m])) (hm:m≤1000000):H0 (EN w (n+1)) 45 st [.ptr b 0] (.sc (.int .i64 m)):=by
 refine bC3 rfl rfl (fun _ _=>rfl) (Nat.le_of_ble_eq_true rfl) rfl fun C hC h0=>⟨⟨st.own,st.next,st.next⟩,?_⟩
 simp (disch:=first|exact bd (by with_unfolding_all rfl)|fail) only[WA,Nat.reduceEqDiff,Nat.reduceLT,↓reduceIte,reduceCtorEq,c45,hb]
 exact .refl _ _
end
set_option maxHeartbeats 400000
def JT (k:Nat) (r:Bool × List n8):List D:= [.sc (.bool r.1),.sl k r.2.length (r8 r.2)]
def M8 (k:Nat) (R:List (Bool × List n8)):List D:=R.flatMap (JT k)
theorem bG (k:Nat) (R:List (Bool × List n8)):(M8 k R).length=R.length*2:=by
 induction R with
 |nil=>rfl
 |cons r R ih=>
  have e:M8 k (r::R)=JT k r++M8 k R:=by simp[M8]
  rw[e,List.length_append,ih]
  simp only[JT,List.length_cons,List.length_nil]
  omega
theorem FH (k:Nat) (R:List (Bool × List n8)) (j:Nat) (hj:j<R.length):D0 (M8 k R) (j*2) (some 2)=some (.agg [.sc (.bool R[j]!.1),.sl k R[j]!.2.length (r8 R[j]!.2)]):=wA (JT k) 2 R (fun _=>rfl) (by decide) j hj
abbrev dB (s k:Nat) (c:qE):V:= .agg [.sc (.int .i64 c.1),.sl s c.2.length (M8 k c.2)]
def SX (R:List (Bool × List n8)):Prop:=∀ r ∈ R,KP r.2∧r.2.length≤140737488351232
def U5 (acc:List UInt8) (n:Int) (R:List (Bool × List n8)):List UInt8 × Int:=if (y7 n R).2=0 then (acc++(y7 n R).1,0) else ([],(y7 n R).2)
theorem UO (acc:List UInt8) (n:Int):U5 acc n []=(acc,0):=by simp[U5,y7]
theorem OM (acc:List UInt8) (n:Int) (r:Bool × List n8) (R:List (Bool × List n8)) (h:(C7 r.1 r.2 n).2=0):U5 acc n (r::R)=U5 (acc++((C7 r.1 r.2 n).1++ [10])) (n+1) R:=by
 unfold U5
 rw[y7,if_pos h]
 by_cases h2:(y7 (n+1) R).2=0
 ·simp only[if_pos h2,if_true,List.append_assoc,List.cons_append,List.nil_append]
 ·simp only[if_neg h2]
theorem UN (acc:List UInt8) (n:Int) (r:Bool × List n8) (R:List (Bool × List n8)) (h:(C7 r.1 r.2 n).2 ≠ 0):U5 acc n (r::R)=([],(C7 r.1 r.2 n).2):=by
 unfold U5
 rw[y7,if_neg h]
 simp only[if_neg h]
theorem aN9 (c:qE):s5 c=if T9 c=0 then (if (U5 (I0 c.1++ [10]) 1 c.2).2=0 then (if 60000<(U5 (I0 c.1++ [10]) 1 c.2).1.length then ([],4) else U5 (I0 c.1++ [10]) 1 c.2) else U5 (I0 c.1++ [10]) 1 c.2) else ([],T9 c):=by
 unfold s5 U5
 by_cases h1:T9 c=0
 ·simp only[if_pos h1]
  by_cases h2:(y7 1 c.2).2=0
  ·simp only[if_pos h2,if_true,List.append_assoc,List.cons_append,List.nil_append]
  ·simp only[if_neg h2]
 ·simp only[if_neg h1]
theorem aI3 (z:Int):I0 z++ [10]= [115,116,97,114,116,32,119,105,116,104,32]++(Lib.itoa z++ [32,115,116,105,116,99,104,101,115,46,10]):=by simp[I0]
theorem tT:∀ R,lX R=0∨lX R=4∨lX R=8
 | []=> .inl rfl
 |r::R=>by
  rw[lX]
  split
  ·exact tT R
  ·exact mJ _
section
variable (w:World) (n:Nat)
theorem cD0 (s k:Nat) (c:qE) (hL:c.2.length≤140737488351232) (hK:SX c.2):m6 (EN w (n+7)) 43 [dB s k c] (.sc (.int .i64 (T9 c))) ⟨[],0,0⟩:=by
 obtain ⟨z,R⟩:=c
 simp only at hL hK
 have hil:=bG k R
 unfold T9
 simp only
 by_cases h1:100<R.length
 ·rw[if_pos h1]
  refine d7 rfl rfl (fun _ _=>rfl) (Nat.le_of_ble_eq_true rfl) (g9 w) rfl fun C hC h0=>?_
  simp (disch:=first|omega|assumption|exact bd (by with_unfolding_all rfl)|exact Or.inl rfl|(simp only[d6]<;>omega)|fail) only[WA,Nat.reduceEqDiff,Nat.reduceLT,↓reduceIte,reduceCtorEq,c43]
  all_goals try (exfalso;omega)
  exact b8 rfl h0 rfl
 rw[if_neg h1]
 by_cases h2:z<0∨200<z
 ·rw[if_pos h2]
  refine d7 rfl rfl (fun _ _=>rfl) (Nat.le_of_ble_eq_true rfl) (g9 w) rfl fun C hC h0=>?_
  rcases h2 with h2|h2
  all_goals
   repeat' (first|(simp (disch:=first|omega|assumption|exact bd (by with_unfolding_all rfl)|exact Or.inl rfl|(simp only[d6]<;>omega)|fail) only[WA,Nat.reduceEqDiff,Nat.reduceLT,↓reduceIte,reduceCtorEq,c43]))
   all_goals try (exfalso;omega)
   exact b8 rfl h0 rfl
 rw[if_neg h2]
 refine d7 rfl rfl (fun _ _=>rfl) (Nat.le_of_ble_eq_true rfl) (g9 w) rfl fun C hC h0=>?_
 have hrn:C.E.rounds=C6:=by rw[hC,k8]
 simp (disch:=first|omega|assumption|exact bd (by with_unfolding_all rfl)|exact Or.inl rfl|(simp only[d6]<;>omega)|fail) only[WA,Nat.reduceEqDiff,Nat.reduceLT,↓reduceIte,reduceCtorEq,c43]
 all_goals try (exfalso;omega)
 refine y6 (fun m fr st=>∃ j:Nat,m=R.length - j∧j≤R.length∧lX R=lX (R.drop j)∧fr= [(19,.sl s R.length (M8 k R)),(20,.sc (.int .i64 R.length)),(21,.sc (.int .i64 j))]∧st=⟨[],0,0⟩) R.length ?_ ⟨_,_,s9 [] 0 h0 rfl rfl rfl rfl,0,by omega,Nat.zero_le _,rfl,rfl,rfl⟩ ?_
 ·rw[hrn];unfold C6;omega
 rintro m fr st ⟨j,rfl,hj,hinv,rfl,rfl⟩
 by_cases hlt:j<R.length
 ·have hRj:R.drop j=R[j]! ::R.drop (j+1):=by rw[List.drop_eq_getElem_cons hlt,getElem!_pos R j hlt]
  have hag:=FH k R j hlt
  have hm:=hK R[j]! (by rw[getElem!_pos R j hlt];exact List.getElem_mem hlt)
  have ha:=JV w n k R[j]!.2 hm.2 hm.1
  rw[hRj,lX] at hinv
  generalize R[j]! =r at*
  obtain ⟨b,L⟩:=r
  simp only at hag ha hinv
  rw[hinv]
  by_cases h3:L2 L=0
  ·rw[if_pos h3] at hinv ⊢
   rw[h3] at ha
   simp (disch:=first|omega|assumption|exact bd (by with_unfolding_all rfl)|exact Or.inl rfl|(simp only[d6]<;>omega)|fail) only[WA,Nat.reduceEqDiff,Nat.reduceLT,↓reduceIte,List.replicate,WW,hag]
   all_goals try (exfalso;omega)
   refine a6 (by rw[hC];exact ha.flat rfl rfl) ?_
   simp (disch:=first|omega|assumption|exact bd (by with_unfolding_all rfl)|exact Or.inl rfl|(simp only[d6]<;>omega)|fail) only[WA,Nat.reduceEqDiff,Nat.reduceLT,↓reduceIte]
   rw[← hinv]
   exact ⟨R.length - (j+1),_,_,by omega,s9 [] 0 h0 rfl rfl rfl rfl,j+1,rfl,by omega,hinv,rfl,rfl⟩
  ·rw[if_neg h3]
   generalize L2 L=e at*
   simp (disch:=first|omega|assumption|exact bd (by with_unfolding_all rfl)|exact Or.inl rfl|(simp only[d6]<;>omega)|fail) only[WA,Nat.reduceEqDiff,Nat.reduceLT,↓reduceIte,List.replicate,WW,hag]
   all_goals try (exfalso;omega)
   refine a6 (by rw[hC];exact ha.flat rfl rfl) ?_
   simp (disch:=first|omega|assumption|exact bd (by with_unfolding_all rfl)|exact Or.inl rfl|(simp only[d6]<;>omega)|fail) only[WA,Nat.reduceEqDiff,Nat.reduceLT,↓reduceIte,h3]
   exact b8 rfl h0 rfl
 ·have:j=R.length:=by omega
  subst this
  rw[List.drop_length] at hinv
  rw[hinv]
  simp (disch:=first|omega|assumption|exact bd (by with_unfolding_all rfl)|exact Or.inl rfl|(simp only[d6]<;>omega)|fail) only[WA,Nat.reduceEqDiff,Nat.reduceLT,↓reduceIte,WW]
  all_goals try (exfalso;omega)
  exact b8 rfl h0 rfl
end
section
variable (w:World) (n:Nat)
theorem HW (s k:Nat) (c:qE) (hL:c.2.length≤140737488351232) (hK:SX c.2):m6 (EN w (n+9)) 22 [dB s k c] (.tup [m8 (s5 c).1,.sc (.int .i64 (s5 c).2)]) ⟨[],0,0⟩:=by
 have hc:=cD0 w (n+1) s k c hL hK
 rw[aN9]
 by_cases h1:T9 c=0
 case neg=>
  rw[if_neg h1]
  generalize T9 c=e at*
  refine d7 rfl rfl (fun _ _=>rfl) (Nat.le_of_ble_eq_true rfl) (g9 w) rfl fun C hC h0=>?_
  simp (disch:=first|exact bd (by with_unfolding_all rfl)|fail) only[WA,Nat.reduceEqDiff,Nat.reduceLT,↓reduceIte,reduceCtorEq,c22]
  refine a6 (by rw[hC];exact hc.flat rfl rfl) ?_
  simp (disch:=first|exact bd (by with_unfolding_all rfl)|(simp only[d6]<;>omega)) only[WA,Nat.reduceEqDiff,Nat.reduceLT,↓reduceIte,h1]
  exact b8 rfl h0 rfl
 obtain ⟨hc1,hc2,_⟩:=W5 h1
 rw[h1] at hc
 rw[if_pos h1]
 clear h1
 obtain ⟨z,R⟩:=c
 simp only at hL hK hc1 hc2 ⊢
 have hil:=bG k R
 have hi:=fun st=>UK w (n+7) st z (by omega) (by omega)
 have hzl:=F6 (z:=z) (by omega) (by omega)
 have hse:=aI3 z
 have hsl:(I0 z++ [10]).length≤40:=by rw[hse];simp only[List.length_append,List.length_cons,List.length_nil];omega
 have nb:∀ a b:Nat,Nat.beq a b=false→a ≠ b:=fun a b=>Nat.ne_of_beq_eq_false
 generalize hJ:U5 (I0 z++ [10]) 1 R=J at*
 generalize hS:I0 z++ [10]=S at*
 generalize Lib.itoa z=A at*
 refine d7 rfl rfl (fun _ _=>rfl) (Nat.le_of_ble_eq_true rfl) (g9 w) (by split<;>first|(split<;>rfl)|rfl) fun C hC h0=>?_
 have hrn:C.E.rounds=C6:=by rw[hC,k8]
 simp (disch:=first|exact bd (by with_unfolding_all rfl)|fail) only[WA,Nat.reduceEqDiff,Nat.reduceLT,↓reduceIte,reduceCtorEq,c22]
 refine a6 (by rw[hC];exact hc.flat rfl rfl) ?_
 simp (disch:=first|exact bd (by with_unfolding_all rfl)|fail) only[WA,Nat.reduceEqDiff,Nat.reduceLT,Nat.reduceAdd,↓reduceIte,reduceCtorEq,List.replicate]
 all_goals try (exfalso;omega)
 have hse2:(115:UInt8)::116::97::114::116::32::119::105::116::104::32::(A++ [32,115,116,105,116,99,104,101,115,46,10])=S:=hse.symm
 refine a6 (by rw[hC];exact hi _) ?_
 simp (disch:=first|exact bd (by with_unfolding_all rfl)|(simp only[d6]<;>omega)) only[WA,Nat.reduceEqDiff,Nat.reduceLT,↓reduceIte,K5,List.append_assoc,hse2]
 all_goals try (exfalso;omega)
 refine TI (st:=⟨[(1,.box 83 1 [.sc (.pointer none),.sc (.slice none 0 0)]),(0,.box 52 1 [.sc (.int .i64 z),.sl s R.length (M8 k R)])],2,0⟩) (fun C' hn'=>qB (C:=C') (fr:= []) (l:= [.sc (.pointer none),.sc (.slice none 0 0)]) 1 83 1 1 5 1 rfl rfl (Nat.ne_of_beq_eq_false rfl)) ?_
 refine bD1 w (n+5) hC 1 2 (.sc (.pointer none)) [] S rfl rfl (.inl rfl) (Nat.zero_le _) (Nat.zero_le _) (by decide) (Nat.ne_of_beq_eq_false rfl) (by simp;omega) ?_
 simp (disch:=first|exact bd (by with_unfolding_all rfl)|fail) only[WA,Nat.reduceEqDiff,Nat.reduceLT,Nat.reduceAdd,↓reduceIte,reduceCtorEq]
 refine y6 (fun m fr st=>∃ (j:Nat) (p:V) (F:List UInt8),m=R.length - j∧j≤R.length∧ZZ 0 p∧J=U5 F ((j:Int)+1) (R.drop j)∧F.length≤40+j*2101∧fr= [(5,.ptr 0 0),(22,.sl s R.length (M8 k R)),(23,.sc (.int .i64 R.length)),(24,.sc (.int .i64 j))]∧
  st=⟨[(1,.gro 5 1 false (eE ⟨F.toArray⟩)),(0,.box 83 1 [p,.gr 2 1 F.length])],2,0⟩) R.length ?_ ⟨_,_,s9 [(3,1),(1,0)] 2 h0 rfl rfl rfl rfl,0,.ptr 0 0,S,by omega,Nat.zero_le _,.inr rfl,hJ.symm,by omega,rfl,by simp;rfl⟩ ?_
 ·rw[hrn];unfold C6;omega
 rintro m fr st ⟨j,p,F,rfl,hj,hp,hinv,hF,rfl,rfl⟩
 by_cases hlt:j<R.length
 case neg=>
  have:j=R.length:=by omega
  subst this
  rw[List.drop_length,UO] at hinv
  subst hinv
  simp only[if_true]
  have hFz:=p8 F
  have hbl:=fun (st:l8) (h:f8 st.own 0=some (.box 83 1 [p,.gr 2 1 F.length]))=>bR6 w (n+7) st 0 1 1 F.length p h (by omega)
  by_cases hb:60000<F.length
  ·rw[if_pos hb]
   simp (disch:=first|omega|exact bd (by with_unfolding_all rfl)|fail) only[WA,Nat.reduceEqDiff,Nat.reduceLT,↓reduceIte,LK]
   refine a6 (by rw[hC];refine hbl _ ?_;rfl) ?_
   simp (disch:=first|omega|exact bd (by with_unfolding_all rfl)|fail) only[WA,Nat.reduceEqDiff,Nat.reduceLT,↓reduceIte]
   all_goals try (exfalso;omega)
   exact b8 rfl h0 rfl
  ·rw[if_neg hb]
   simp (disch:=first|omega|exact bd (by with_unfolding_all rfl)|fail) only[WA,Nat.reduceEqDiff,Nat.reduceLT,↓reduceIte,LK]
   refine a6 (by rw[hC];refine hbl _ ?_;rfl) ?_
   simp (disch:=first|omega|exact bd (by with_unfolding_all rfl)|fail) only[WA,Nat.reduceEqDiff,Nat.reduceLT,↓reduceIte]
   all_goals try (exfalso;omega)
   refine aZ7 w (n+7) hC 0 1 p ⟨F.toArray⟩ (by rw[hFz];rfl) rfl (Nat.zero_le _) (Nat.zero_le _) (by omega) fun st' hst=>?_
   repeat' (first|(simp (disch:=fail) only[WA,m7,s8,Nat.reduceEqDiff,Nat.reduceLT,Nat.reduceAdd,Nat.reduceBEq,Int.reduceAdd,Int.reduceSub,Int.reduceLT,Int.reduceLE,Int.reduceEq,Int.reduceNeg,↓reduceIte,reduceCtorEq,List.replicate])|apply A2|((first|apply J4|apply A9|apply E9|apply J5|apply J3|apply F3)<;>intro _))
   exact b8 rfl h0 hst
 have hRj:R.drop j=R[j]! ::R.drop (j+1):=by rw[List.drop_eq_getElem_cons hlt,getElem!_pos R j hlt]
 have hag:=FH k R j hlt
 have hm:=hK R[j]! (by rw[getElem!_pos R j hlt];exact List.getElem_mem hlt)
 have hrw:=ZY w n R[j]!.1 k R[j]!.2 ((j:Int)+1) hm.2 hm.1
 have hrl:=QJ (b:=R[j]!.1) (L:=R[j]!.2) (n:=(j:Int)+1)
 rw[hRj] at hinv
 have e1:=OM F ((j:Int)+1) R[j]! (R.drop (j+1))
 have e2:=UN F ((j:Int)+1) R[j]! (R.drop (j+1))
 generalize hr:R[j]! =r at*
 obtain ⟨b,L⟩:=r
 simp only at hag hrw e1 e2 hrl
 by_cases h2:(C7 b L ((j:Int)+1)).2=0
 ·rw[e1 h2] at hinv
  rw[h2] at hrw
  generalize (C7 b L ((j:Int)+1)).1=T at*
  clear e1 e2 h2
  simp (disch:=first|omega|exact bd (by with_unfolding_all rfl)|(simp only[d6]<;>omega)) only[WA,Nat.reduceEqDiff,Nat.reduceLT,Nat.reduceAdd,↓reduceIte,List.replicate,LK,hag]
  all_goals try (exfalso;omega)
  refine a6 (by rw[hC];exact hrw.flat rfl rfl) ?_
  simp (disch:=first|omega|exact bd (by with_unfolding_all rfl)|(simp only[d6]<;>omega)) only[WA,Nat.reduceEqDiff,Nat.reduceLT,↓reduceIte,K5]
  all_goals try (exfalso;omega)
  refine bD1 w (n+5) hC 0 1 p F (T++ [10]) rfl rfl hp (Nat.zero_le _) (Nat.zero_le _) (by decide) (nb _ _ rfl) (by simp;omega) ?_
  simp (disch:=fail) only[WA,Nat.reduceEqDiff,Nat.reduceAdd,↓reduceIte,reduceCtorEq]
  refine ⟨R.length - (j+1),_,_,by omega,s9 [(3,1),(0,0)] 2 h0 rfl rfl rfl rfl,j+1,.ptr 0 0,F++(T++ [10]),rfl,by omega,.inr rfl,?_,?_,rfl,?_⟩
  ·rw[hinv];rfl
  ·simp only[List.length_append,List.length_cons,List.length_nil];omega
  ·simp only[List.length_append];rfl
 ·rw[e2 h2] at hinv
  subst hinv
  generalize (C7 b L ((j:Int)+1)).2=e at*
  simp only[if_neg h2]
  clear e1 e2
  simp (disch:=first|omega|exact bd (by with_unfolding_all rfl)|(simp only[d6]<;>omega)) only[WA,Nat.reduceEqDiff,Nat.reduceLT,Nat.reduceAdd,↓reduceIte,List.replicate,LK,hag]
  all_goals try (exfalso;omega)
  refine a6 (by rw[hC];exact hrw.flat rfl rfl) ?_
  simp (disch:=first|exact bd (by with_unfolding_all rfl)|(simp only[d6]<;>omega)) only[WA,Nat.reduceEqDiff,Nat.reduceLT,↓reduceIte,h2]
  exact b8 rfl h0 rfl
end
def PD:Option qE→V
 |none=> .tup [.agg [.sc (.int .i64 0),.sl 3 0 []],.sc (.int .i64 12)]
 |some c=> .tup [dB 3 3 c,.sc (.int .i64 0)]
theorem I8 {C:C5} {st:l8} {b x:Value} (h0:C.w0.nx=0) (hro:st.ro=0):M3 C [(0,.tup [.agg [.sc b,.sc (.slice none 0 0)],.sc x])] st [(0,.tup [.agg [.sc b,.sl 3 0 []],.sc x])] ⟨[],0,0⟩:=
 (M2 (t:=0) (v:= .tup [.agg [.sc b,.sc (.slice none 0 0)],.sc x]) (v':= .tup [.agg [.sc b,.sl 3 0 []],.sc x]) rfl (zF (.cons (zE (.cons (.refl _) (.cons kZ .nil))) (.cons (.refl _) .nil)))).trans (s9 [] 0 h0 hro rfl rfl rfl)
theorem aK8 {C:C5} {st:l8} {b x:Value} {v:V} {s n:Nat} {l:List D} (hs:x7 st.own v=some (.sl s n l)) (hrow:E1 st.ro st.own (cT v)=true) (hk:s ≠ 1∨n ≠ 0) (h0:C.w0.nx=0) (hro:st.ro=0):M3 C [(0,.tup [.agg [.sc b,v],.sc x])] st [(0,.tup [.agg [.sc b,.sl 3 n l],.sc x])] ⟨[],0,0⟩:=by
 have e1:cT (.tup [.agg [.sc b,v],.sc x])=cT v:=by simp[cT,Z5]
 have e2:x7 st.own (.tup [.agg [.sc b,v],.sc x])=some (.tup [.agg [.sc b,.sl s n l],.sc x]):=by simp[x7,J7,hs]
 refine (eK (t:=0) (v:= .tup [.agg [.sc b,v],.sc x]) rfl e2 (by rw[e1];exact hrow)).trans ?_
 refine (M2 (t:=0) (v:= .tup [.agg [.sc b,.sl s n l],.sc x]) (v':= .tup [.agg [.sc b,.sl 3 n l],.sc x]) rfl (zF (.cons (zE (.cons (.refl _) (.cons (pV hk) .nil))) (.cons (.refl _) .nil)))).trans ?_
 exact s9 [] 0 h0 hro rfl rfl rfl
theorem yZ {b x:Value} {n:Nat} {l:List D}:bM [] (.tup [.agg [.sc b,.sl 3 n l],.sc x]):=eC (by simp only[Cl,HB,and_true];exact ⟨trivial,rfl⟩)
theorem FG (nx t:Nat) (a:Value) (n:Nat) (l:List D):N7 nx t 2 1 [.bool false,.slice none 0 0] [(0,2,.agg [.sc a,.sl 3 n l])]=some (.ref nx 0 1 1,some (.row t 2 false false [.sc a,.sl 3 n l]),[]):=(rfl)
theorem zN {H:E4} {o t n:Nat} {z:Bool} {l:List D} (h:f8 H o=some (.gro t 2 z l)) (hl:l.length=n*2):x7 H (.gr 2 o n)=some (.sl 2 n l):=by
 simp only[x7,cY,h]
 rw[if_pos ⟨hl,by decide,by decide,by decide⟩]
 rfl
theorem VU (k:Nat) (R:List (Bool × List n8)) (b:Bool) (L:List n8):M8 k (R++ [(b,L)])=M8 k R++ [.sc (.bool b),.sl k L.length (r8 L)]:=by simp[M8,JT]
theorem bJ1 {s:List UInt8} {b:Bool} {L:List n8} {k:Int} (h:dX s=some (b,L,k)):KP L∧L.length≤140737488351232:=by
 have h1:=(pR (by rw[yQ h]:(C7 b L k).2=0)).2.2.2
 have h2:=(T7 h1).1
 exact ⟨nX h1,by omega⟩
section
variable (w:World) (n:Nat)
theorem ZB (s:List UInt8) (hs:s.length≤100000):m6 (EN w (n+11)) 23 [m8 s] (PD (pO s)) ⟨[],0,0⟩:=by
 have hsz:=p8 s
 rw[← aV5]
 have hok:bM [] (PD (lV s)):=by
  rcases lV s with _|c
  ·exact yZ
  ·exact yZ
 have hun:lV s=if 60000<s.length then none else match B7 [pE,gU] ((n4 10 s).headD []) with
  |none=>none
  |some (m,r)=>if r= []∧(n4 10 s).length≤102 then (match lY 1 (n4 10 s).tail.dropLast [] with
   |none=>none
   |some R=>if s5 (m.headD 0,R)=(s,0) then some (m.headD 0,R) else none) else none:=rfl
 generalize lV s=Z at*
 by_cases h1:60000<s.length
 ·rw[if_pos h1] at hun
  subst hun
  refine y9 rfl rfl (fun _ _=>rfl) (Nat.le_of_ble_eq_true rfl) (g9 w) hok rfl fun C hC h0=>?_
  simp (disch:=first|omega|exact bd (by with_unfolding_all rfl)|(simp only[d6]<;>omega)) only[WA,Nat.reduceEqDiff,Nat.reduceLT,↓reduceIte,reduceCtorEq,List.replicate,c23,hsz]
  all_goals try (exfalso;omega)
  exact I8 h0 rfl
 rw[if_neg h1] at hun
 have hsp:=aA0 w (n+4) s 10 (by omega)
 have hwl:=(Go.Itp.words_len (c:=10) s.length (s:=s) (Nat.le_refl _))
 have hwn:=eL 10 s
 generalize n4 10 s=q at*
 obtain ⟨q0,qt,rfl⟩:∃ a t,q=a::t:=by
  cases q with
  |nil=>exact absurd rfl hwn
  |cons a t=>exact ⟨a,t,rfl⟩
 have hq0:=hwl.2 q0 (by simp)
 have hm:=JB w (n+3) q0 [115,116,97,114,116,32,119,105,116,104,32,35,32,115,116,105,116,99,104,101,115,46] (by omega) (by decide)
 rw[show n4 35 ([115,116,97,114,116,32,119,105,116,104,32,35,32,115,116,105,116,99,104,101,115,46]:List UInt8)= [pE,gU] from by decide+kernel] at hm
 have hlen:=fun m r (h:B7 [pE,gU] q0=some (m,r))=>nA (f:= [pE,gU]) (by simp) h
 simp only[List.headD_cons,List.tail_cons] at hun
 have dl0:D0 (sD q0::List.map sD qt) 0 none=some (m8 q0):=(rfl)
 cases hM:B7 [pE,gU] q0 with
 |none=>
  rw[hM] at hm hun
  unfold jB at hm
  simp only at hun
  subst hun
  refine y9 rfl rfl (fun _ _=>rfl) (Nat.le_of_ble_eq_true rfl) (g9 w) hok rfl fun C hC h0=>?_
  simp (disch:=first|omega|exact bd (by with_unfolding_all rfl)|fail) only[WA,Nat.reduceEqDiff,Nat.reduceLT,↓reduceIte,reduceCtorEq,List.replicate,c23,hsz]
  all_goals try (exfalso;omega)
  refine l5 (by rw[hC];exact hsp) rfl rfl (fun _=>rfl) ?_
  simp (disch:=first|omega|exact bd (by with_unfolding_all rfl)|fail) only[WA,Nat.reduceEqDiff,Nat.reduceLT,↓reduceIte,reduceCtorEq,BE,dl0,List.length_cons]
  refine l5 (by rw[hC];exact hm) rfl rfl (fun _=>rfl) ?_
  simp (disch:=first|omega|exact bd (by with_unfolding_all rfl)|(simp only[d6]<;>omega)) only[WA,Nat.reduceEqDiff,Nat.reduceLT,↓reduceIte,reduceCtorEq]
  exact I8 h0 rfl
 |some mr=>
  obtain ⟨m,r⟩:=mr
  have hl:=hlen m r hM
  rw[hM] at hm hun
  unfold jB at hm
  simp only at hun
  clear hlen hM
  obtain ⟨v,rfl⟩:∃ v,m= [v]:=by
   cases m with
   |nil=>simp at hl
   |cons a q=>cases q with
    |nil=>exact ⟨a,rfl⟩
    |cons b c=>simp at hl
  simp only[List.headD_cons] at hun
  have hemp:((⟨r.toArray⟩:ByteArray)=⟨#[]⟩)=(r= []):=aH r []
  by_cases hr:r= []
  case neg=>
   rw[if_neg fun h=>hr h.1] at hun
   subst hun
   refine y9 rfl rfl (fun _ _=>rfl) (Nat.le_of_ble_eq_true rfl) (g9 w) hok rfl fun C hC h0=>?_
   simp (disch:=first|omega|exact bd (by with_unfolding_all rfl)|fail) only[WA,Nat.reduceEqDiff,Nat.reduceLT,↓reduceIte,reduceCtorEq,List.replicate,c23,hsz]
   all_goals try (exfalso;omega)
   refine l5 (by rw[hC];exact hsp) rfl rfl (fun _=>rfl) ?_
   simp (disch:=first|omega|exact bd (by with_unfolding_all rfl)|fail) only[WA,Nat.reduceEqDiff,Nat.reduceLT,↓reduceIte,reduceCtorEq,BE,dl0,List.length_cons]
   refine l5 (by rw[hC];exact hm) rfl rfl (fun _=>rfl) ?_
   simp (disch:=first|omega|exact bd (by with_unfolding_all rfl)|(simp only[d6]<;>omega)) only[WA,Nat.reduceEqDiff,Nat.reduceLT,↓reduceIte,reduceCtorEq,hemp,hr]
   exact I8 h0 rfl
  subst hr
  by_cases h102:(q0::qt).length≤102
  case neg=>
   rw[if_neg fun h=>h102 h.2] at hun
   subst hun
   simp only[List.length_cons] at h102
   refine y9 rfl rfl (fun _ _=>rfl) (Nat.le_of_ble_eq_true rfl) (g9 w) hok rfl fun C hC h0=>?_
   simp (disch:=first|omega|exact bd (by with_unfolding_all rfl)|fail) only[WA,Nat.reduceEqDiff,Nat.reduceLT,↓reduceIte,reduceCtorEq,List.replicate,c23,hsz]
   all_goals try (exfalso;omega)
   refine l5 (by rw[hC];exact hsp) rfl rfl (fun _=>rfl) ?_
   simp (disch:=first|omega|exact bd (by with_unfolding_all rfl)|fail) only[WA,Nat.reduceEqDiff,Nat.reduceLT,↓reduceIte,reduceCtorEq,BE,dl0,List.length_cons]
   refine l5 (by rw[hC];exact hm) rfl rfl (fun _=>rfl) ?_
   simp (disch:=first|omega|exact bd (by with_unfolding_all rfl)|(simp only[d6]<;>omega)) only[WA,Nat.reduceEqDiff,Nat.reduceLT,↓reduceIte,reduceCtorEq]
   all_goals try (exfalso;omega)
   exact I8 h0 rfl
  rw[if_pos ⟨rfl,h102⟩] at hun
  refine y9 rfl rfl (fun _ _=>rfl) (Nat.le_of_ble_eq_true rfl) (g9 w) hok rfl fun C hC h0=>?_
  have hrn:C.E.rounds=C6:=by rw[hC,k8]
  simp only[List.length_cons] at h102
  simp (disch:=first|omega|exact bd (by with_unfolding_all rfl)|fail) only[WA,Nat.reduceEqDiff,Nat.reduceLT,↓reduceIte,reduceCtorEq,List.replicate,c23,hsz]
  all_goals try (exfalso;omega)
  refine l5 (by rw[hC];exact hsp) rfl rfl (fun _=>rfl) ?_
  simp (disch:=first|omega|exact bd (by with_unfolding_all rfl)|fail) only[WA,Nat.reduceEqDiff,Nat.reduceLT,↓reduceIte,reduceCtorEq,BE,dl0,List.length_cons]
  refine l5 (by rw[hC];exact hm) rfl rfl (fun _=>rfl) ?_
  simp (disch:=first|omega|exact bd (by with_unfolding_all rfl)|(simp only[d6]<;>omega)) only[WA,Nat.reduceEqDiff,Nat.reduceLT,Nat.reduceAdd,↓reduceIte,reduceCtorEq,List.replicate,List.map_cons,List.map_nil,BE,dl1]
  all_goals try (exfalso;omega)
  obtain ⟨Q,hQ⟩:∃ Q,Q=q0::qt:=⟨_,rfl⟩
  have e1:sD q0::List.map sD qt=Q.map sD:=by rw[hQ];rfl
  have e2:qt.length+1=Q.length:=by rw[hQ];rfl
  have hmid:qt.dropLast.length=Q.length - 2:=by rw[List.length_dropLast];omega
  have hQj:∀ j,1≤j→j - 1<qt.dropLast.length→Q[j]! =qt.dropLast[j - 1]! :=fun j a b=>by
   rw[getElem!_pos qt.dropLast _ b,getElem!_pos Q j (by omega),List.getElem_dropLast]
   simp only[hQ]
   rw[List.getElem_cons,dif_neg (by omega)]
  have hQl:∀ j,j<Q.length→Q[j]!.length≤s.length:=fun j a=>hwl.2 _ (by rw[← hQ,getElem!_pos Q j a];exact List.getElem_mem a)
  rw[e1,e2]
  rw[e2] at h102
  clear e1 dl0 hsp hm hl hwl hwn hq0 hQ
  generalize qt.dropLast=mid at*
  refine y6 (fun m fr st=>∃ (j:Nat) (acc:List (Bool × List n8)),m=Q.length - j∧1≤j∧j - 1≤mid.length∧acc.length=j - 1∧SX acc∧lY 1 mid []=lY j (mid.drop (j - 1)) acc∧fr= [(0,m8 s),(2,.ptr 0 0),(4,.sl 3 Q.length (Q.map sD)),(8,.ptr 1 0),(9,.sc (.int .i64 j))]∧
   st=⟨[(2,.gro 36 2 false (M8 3 acc)),(1,.box 52 1 [.sc (.int .i64 v),.gr 2 2 acc.length]),(0,.box 52 1 [.sc (.int .i64 0),.sc (.slice none 0 0)])],3,0⟩) (Q.length - 1) ?_ ⟨_,_,qB 1 52 1 1 36 2 rfl rfl (Nat.ne_of_beq_eq_false rfl),1,[],by omega,Nat.le_refl _,by omega,rfl,(fun r hr=>by cases hr),rfl,rfl,rfl⟩ ?_
  ·rw[hrn];unfold C6;omega
  rintro m fr st ⟨j,acc,rfl,hj1,hj,hal,hak,hinv,rfl,rfl⟩
  have hd:=bG 3 acc
  by_cases hlt:j - 1<mid.length
  ·have hmj:mid.drop (j - 1)=mid[j - 1]! ::mid.drop (j - 1+1):=by rw[List.drop_eq_getElem_cons hlt,getElem!_pos mid _ hlt]
   have hq:=hQj j hj1 hlt
   have hxl:=hQl j (by omega)
   have hpr:=VH w n Q[j]! (by omega)
   rw[hmj,lY,← hq] at hinv
   generalize hX:Q[j]! =X at*
   cases hR:dX X with
   |none=>
    rw[hR] at hpr hinv
    simp only at hinv
    rw[hinv] at hun
    simp only at hun
    subst hun
    unfold EP at hpr
    simp only at hpr
    simp (disch:=first|omega|exact bd (by with_unfolding_all rfl)|fail) only[WA,Nat.reduceEqDiff,Nat.reduceLT,↓reduceIte,reduceCtorEq,vK,hX]
    all_goals try (exfalso;omega)
    refine l5 (by rw[hC];exact hpr) rfl rfl (fun _=>rfl) ?_
    simp (disch:=first|omega|exact bd (by with_unfolding_all rfl)|(simp only[d6]<;>omega)) only[WA,Nat.reduceEqDiff,Nat.reduceLT,Nat.reduceAdd,Int.reduceEq,↓reduceIte,reduceCtorEq,List.replicate]
    exact I8 h0 rfl
   |some y=>
    obtain ⟨b,L,k⟩:=y
    have hRK:=bJ1 hR
    rw[hR] at hpr hinv
    simp only at hinv
    unfold EP at hpr
    simp only at hpr
    by_cases hkj:k=(j:Int)
    case neg=>
     rw[if_neg hkj] at hinv
     rw[hinv] at hun
     simp only at hun
     subst hun
     simp (disch:=first|omega|exact bd (by with_unfolding_all rfl)|fail) only[WA,Nat.reduceEqDiff,Nat.reduceLT,↓reduceIte,reduceCtorEq,vK,hX]
     all_goals try (exfalso;omega)
     refine l5 (by rw[hC];exact hpr) rfl rfl (fun _=>rfl) ?_
     simp (disch:=first|omega|exact bd (by with_unfolding_all rfl)|(simp only[d6]<;>omega)) only[WA,Nat.reduceEqDiff,Nat.reduceLT,Nat.reduceAdd,↓reduceIte,reduceCtorEq,List.replicate,hkj]
     exact I8 h0 rfl
    rw[if_pos hkj] at hinv
    subst hkj
    have hsn:=VU 3 acc b L
    generalize M8 3 acc=AD at*
    simp (disch:=first|omega|exact bd (by with_unfolding_all rfl)|fail) only[WA,Nat.reduceEqDiff,Nat.reduceLT,↓reduceIte,reduceCtorEq,vK,hX]
    all_goals try (exfalso;omega)
    refine l5 (by rw[hC];exact hpr) rfl rfl (fun _=>rfl) ?_
    simp (disch:=first|omega|exact bd (by with_unfolding_all rfl)|(simp only[d6]<;>omega)) only[WA,Nat.reduceEqDiff,Nat.reduceLT,Nat.reduceAdd,↓reduceIte,reduceCtorEq,List.replicate,FG]
    all_goals try (exfalso;omega)
    refine ⟨Q.length - (j+1),_,_,by omega,s9 [(5,2),(1,1),(0,0)] 3 h0 rfl rfl rfl rfl,j+1,acc++ [(b,L)],rfl,by omega,by omega,by simp;omega,fun r hr=>?_,?_,by rfl,?_⟩
    ·rcases List.mem_append.1 hr with hr|hr
     ·exact hak r hr
     ·rw[List.mem_singleton.1 hr];exact hRK
    ·rw[hinv,show j+1 - 1=j - 1+1 by omega];rfl
    ·rw[hsn,List.length_append];rfl
  ·have hje:j - 1=mid.length:=by omega
   rw[hje,List.drop_length,lY] at hinv
   rw[hinv] at hun
   simp only at hun
   have hch:=HW w (n+1) 2 3 (v,acc) (by simp only;omega) hak
   have hmj:((⟨(s5 (v,acc)).1.toArray⟩:ByteArray)=⟨s.toArray⟩)=((s5 (v,acc)).1=s):=aH _ _
   have hpair:s5 (v,acc)=(s,0)↔(s5 (v,acc)).2=0∧(s5 (v,acc)).1=s:=⟨fun h=>by rw[h];exact ⟨rfl,rfl⟩,fun h=>Prod.ext h.2 h.1⟩
   have hsnap:∀ st:l8,f8 st.own 2=some (.gro 36 2 false (M8 3 acc))→J7 st.own [.agg [.sc (.int .i64 v),.gr 2 2 acc.length]]=some [dB 2 3 (v,acc)]:=fun st h=>by
    have:=zN h hd
    simp only[J7,x7] at this ⊢
    simp[this]
   have hfin:x7 ([(2,.gro 36 2 false (M8 3 acc))]:E4) (.gr 2 2 acc.length)=some (.sl 2 acc.length (M8 3 acc)):=zN rfl hd
   by_cases he:(s5 (v,acc)).2=0
   case neg=>
    replace hun:=hun.trans (if_neg fun h=>he (hpair.1 h).1)
    subst hun
    clear hpair
    generalize (s5 (v,acc)).2=e at*
    generalize (s5 (v,acc)).1=T at*
    simp (disch:=first|omega|exact bd (by with_unfolding_all rfl)|fail) only[WA,Nat.reduceEqDiff,Nat.reduceLT,↓reduceIte,reduceCtorEq,vK]
    all_goals try (exfalso;omega)
    refine a6 (by rw[hC];exact hch.flat rfl (hsnap _ rfl)) ?_
    simp (disch:=first|omega|exact bd (by with_unfolding_all rfl)|(simp only[d6]<;>omega)) only[WA,Nat.reduceEqDiff,Nat.reduceLT,↓reduceIte,reduceCtorEq,he]
    exact I8 h0 rfl
   by_cases ht:(s5 (v,acc)).1=s
   case neg=>
    replace hun:=hun.trans (if_neg fun h=>ht (hpair.1 h).2)
    subst hun
    rw[he] at hch
    rw[eq_false ht] at hmj
    clear hpair
    generalize (s5 (v,acc)).1=T at*
    simp (disch:=first|omega|exact bd (by with_unfolding_all rfl)|fail) only[WA,Nat.reduceEqDiff,Nat.reduceLT,↓reduceIte,reduceCtorEq,vK]
    all_goals try (exfalso;omega)
    refine a6 (by rw[hC];exact hch.flat rfl (hsnap _ rfl)) ?_
    simp (disch:=first|omega|exact bd (by with_unfolding_all rfl)|(simp only[d6]<;>omega)) only[WA,Nat.reduceEqDiff,Nat.reduceLT,↓reduceIte,reduceCtorEq,hmj]
    exact I8 h0 rfl
   ·replace hun:=hun.trans (if_pos (hpair.2 ⟨he,ht⟩))
    subst hun
    rw[he,ht] at hch
    clear hpair hmj
    simp (disch:=first|omega|exact bd (by with_unfolding_all rfl)|fail) only[WA,Nat.reduceEqDiff,Nat.reduceLT,↓reduceIte,reduceCtorEq,vK]
    all_goals try (exfalso;omega)
    refine a6 (by rw[hC];exact hch.flat rfl (hsnap _ rfl)) ?_
    simp (disch:=first|exact bd (by with_unfolding_all rfl)|(simp only[d6]<;>omega)) only[WA,Nat.reduceEqDiff,Nat.reduceLT,↓reduceIte,reduceCtorEq]
    exact aK8 (s:=2) (zN rfl hd) rfl (.inl (by decide)) h0 rfl
end
set_option maxHeartbeats 4000000
abbrev xA:List UInt8:= [107,51,32,121,111,32,121,111,32,107,102,50,32,112]
abbrev xB:List UInt8:= [112,115,32,112,115,32,112,109,51,32,107,120,50,47,49]
abbrev xC:List UInt8:= [107,53]
abbrev tA:List UInt8:= [107,110,105,116,32,51,44,32,121,97,114,110,32,111,118,101,114,32,50,32,116,105,109,101,115,44,32,107,110,105,116,32,50,32,116,111,103,101,116,104,101,114,32,40,102,105,114,115,116,32,111,110,32,116,111,112,41,44,32,112,117,114,108,32,49]
abbrev tB:List UInt8:= [114,111,119,32,50,32,40,98,97,99,107,41,58,32,115,108,105,112,32,50,32,119,105,116,104,32,121,97,114,110,32,105,110,32,102,114,111,110,116,44,32,109,97,107,101,32,51,32,111,117,116,32,111,102,32,49,32,112,117,114,108,119,105,115,101,44,32,99,114,111,115,115,32,50,32,105,110,32,102,114,111,110,116,32,111,102,32,49,46]
abbrev tC:List UInt8:= [115,116,97,114,116,32,119,105,116,104,32,53,32,115,116,105,116,99,104,101,115,46,10,114,111,119,32,49,32,40,102,114,111,110,116,41,58,32,107,110,105,116,32,53,46,10]
abbrev rA:List UInt8:= [107,110,105,116,32,51,44,32,107,110,105,116,32,49]
abbrev rB:List UInt8:= [121,97,114,110,32,111,118,101,114,32,49,32,116,105,109,101,115]
theorem LY:B5 (E3 xA).1=(tA,0)∧C7 true (E3 xB).1 2=(tB,0)∧s5 (5,[(false,(E3 xC).1)])=(tC,0)∧M5 rA=([],12)∧M5 rB=([],12):=by
 refine ⟨by decide+kernel,by decide+kernel,by decide+kernel,by decide+kernel,by decide+kernel⟩
theorem zO {H:E4} {o t:Nat} {z:Bool} {L:List n8} (h:f8 H o=some (.gro t 4 z (r8 L))):J7 H [.sl 3 L.length (r8 L),.gr 2 o L.length]=some [.sl 3 L.length (r8 L),.sl 2 L.length (r8 L)]:=by
 have:=cG h (z7 L)
 simp only[J7,this,Option.bind_some,Option.map_some]
 rfl
theorem aN8:E3 xA=((E3 xA).1,0)∧E3 xB=((E3 xB).1,0)∧E3 xC=((E3 xC).1,0)∧(E3 xA).1 ≠ []∧(E3 xB).1 ≠ []∧(E3 xC).1 ≠ []:=by
 refine ⟨by decide+kernel,by decide+kernel,by decide+kernel,by decide+kernel,by decide+kernel,by decide+kernel⟩
section
variable (w:World) (n:Nat)
theorem aT4 (s:List UInt8) (hs:s.length≤3000) (hne:s ≠ []) (L:List n8) (hL:E3 s=(L,0)):m6 (EN w (n+5)) 42 [m8 s] (.gr 2 0 L.length) ⟨[(0,.gro 48 4 false (r8 L))],1,0⟩:=by
 have hp:=EL w n s hs hne L hL
 have hd:=z7 L
 refine y9 rfl rfl (fun _ _=>rfl) (Nat.le_of_ble_eq_true rfl) (g9 w) (QD (by
  constructor
  ·intro h;exact List.length_eq_zero_iff.1 (by omega)
  ·intro h;rw[h] at hd;simp at hd;omega)) rfl fun C hC h0=>?_
 simp (disch:=first|exact bd (by with_unfolding_all rfl)|fail) only[WA,Nat.reduceEqDiff,Nat.reduceLT,↓reduceIte,reduceCtorEq,c42]
 refine vN (by rw[hC];exact hp) rfl rfl rfl ?_
 simp (disch:=first|exact bd (by with_unfolding_all rfl)|fail) only[WA,Nat.reduceEqDiff,Nat.reduceLT,↓reduceIte,reduceCtorEq,BF,AY,FO,shO,Z5,cT,S3]
 exact s9 [(0,0)] 1 h0 rfl rfl rfl rfl
theorem xG (s:List UInt8) (hs:s.length≤3000) (hne:s ≠ []) (L:List n8) (hL:E3 s=(L,0)):m6 (EN w (n+5)) 42 [m8 s] (.sl 3 L.length (r8 L)) ⟨[],0,0⟩:=
 (aT4 w n s hs hne L hL).weak (fun C h0=>sJ (s:=2) (cG rfl (z7 L)) rfl (.inl (by decide)) h0 rfl) (fun h=>by cases h)
theorem xF (st0:l8) (s:List UInt8) (hs:s.length≤3000) (hne:s ≠ []) (L:List n8) (hL:E3 s=(L,0)) (hLn:L ≠ []):HG (EN w (n+5)) 42 st0 [m8 s] (.gr 2 st0.next L.length) (.gro 48 4 false (r8 L)):=by
 have hp:=EL w n s hs hne L hL
 have hd:=z7 L
 have hpos:=List.length_pos_iff.2 hLn
 refine bC2 rfl rfl (fun _ _=>rfl) (Nat.le_of_ble_eq_true rfl) (by omega) (fun e=>by rw[e,List.length_nil] at hd;omega) (fun d hd=>?_) fun C hC hn=>⟨⟨(st0.next,.gro 48 4 false (r8 L))::st0.own,st0.next+1,st0.next⟩,st0.next,by simp[f8],Nat.le_refl _,?_⟩
 ·unfold r8 at hd
  simp only[List.mem_flatMap,List.mem_cons,List.not_mem_nil,or_false] at hd
  obtain ⟨x,_,rfl|rfl|rfl|rfl⟩:=hd<;>exact ⟨_,rfl⟩
 ·simp (disch:=first|exact bd (by with_unfolding_all rfl)|fail) only[WA,Nat.reduceEqDiff,Nat.reduceLT,↓reduceIte,reduceCtorEq,c42]
  refine vN (by rw[hC];exact hp) rfl rfl rfl ?_
  simp (disch:=first|exact bd (by with_unfolding_all rfl)|fail) only[WA,Nat.reduceEqDiff,Nat.reduceLT,↓reduceIte,reduceCtorEq,BF,AY,FO,shO,Z5,cT,S3]
  exact .refl _ _
theorem EU (s:List UInt8) (hs:s.length≤100000) (h:M5 s=([],12)):m6 (EN w (n+10)) 21 [m8 s] (.sc (.bool true)) ⟨[],0,0⟩:=by
 have hp:=yH w n s hs
 rw[h] at hp
 unfold TP at hp
 simp only at hp
 refine d7 rfl rfl (fun _ _=>rfl) (Nat.le_of_ble_eq_true rfl) (g9 w) rfl fun C hC h0=>?_
 simp (disch:=first|exact bd (by with_unfolding_all rfl)|fail) only[WA,Nat.reduceEqDiff,Nat.reduceLT,↓reduceIte,reduceCtorEq,c21]
 refine l5 (by rw[hC];exact hp) rfl rfl (fun _=>rfl) ?_
 simp (disch:=first|omega|exact bd (by with_unfolding_all rfl)|(simp only[d6]<;>omega)) only[WA,Nat.reduceEqDiff,Nat.reduceLT,↓reduceIte,reduceCtorEq]
 exact b8 rfl h0 rfl
theorem bE6:m6 (EN w (n+12)) 24 [] (.sc (.bool true)) ⟨[],0,0⟩:=by
 obtain ⟨f1,f2,f3,f4,f5⟩:=LY
 have a1:=jF xA
 have a2:=jF xB
 have a3:=jF xC
 obtain ⟨g1,g2,g3,n1,n2,n3⟩:=aN8
 have c1:=xG w (n+6) xA (by decide) (by decide) _ g1
 have c2:=xG w (n+6) xB (by decide) (by decide) _ g2
 have c3:=xG w (n+6) xC (by decide) (by decide) _ g3
 have o1:=fun st=>xF w (n+6) st xA (by decide) (by decide) _ g1 n1
 have o2:=fun st=>xF w (n+6) st xB (by decide) (by decide) _ g2 n2
 have o3:=fun st=>xF w (n+6) st xC (by decide) (by decide) _ g3 n3
 clear g1 g2 g3
 generalize (E3 xA).1=A at*
 generalize (E3 xB).1=B at*
 generalize (E3 xC).1=D1 at*
 have l1:=(T7 a1).1
 have l2:=(T7 a2).1
 have l3:=(T7 a3).1
 have k1:=nX a1
 have k2:=nX a2
 have k3:=nX a3
 have p1:=WZ w (n+4) 3 A (by omega) k1
 rw[f1] at p1
 have p2:=ZY w (n+3) true 3 B 2 (by omega) k2
 rw[f2] at p2
 have p3:=HW w (n+2) 0 3 (5,[(false,D1)]) (Nat.le_of_ble_eq_true rfl) (fun r hr=>by rw[List.mem_singleton.1 hr];show KP D1∧D1.length≤_;exact ⟨k3,by omega⟩)
 rw[f3] at p3
 have q1:=yH w (n+2) tA (by decide)
 rw[EM f1] at q1
 have q2:=VH w (n+1) tB (by decide)
 rw[pM f2] at q2
 have q3:=ZB w n tC (by decide)
 rw[yS f3] at q3
 have s1:=pS w (n+10) 3 2 A A (by omega) (by omega)
 rw[decide_eq_true rfl] at s1
 have s2:=pS w (n+10) 3 2 B B (by omega) (by omega)
 rw[decide_eq_true rfl] at s2
 have s3:=pS w (n+10) 3 2 D1 D1 (by omega) (by omega)
 rw[decide_eq_true rfl] at s3
 have r1:=EU w (n+1) rA (by decide) f4
 have r2:=EU w (n+1) rB (by decide) f5
 unfold TP at q1
 unfold EP at q2
 unfold PD at q3
 simp only at q1 q2 q3
 clear f1 f2 f3 f4 f5 a1 a2 a3 k1 k2 k3
 have dlr:D0 (M8 3 [(false,D1)]) (0*2+1) none=some (.sl 3 D1.length (r8 D1)):=(rfl)
 refine d7 rfl rfl (fun _ _=>rfl) (Nat.le_of_ble_eq_true rfl) (g9 w) rfl fun C hC h0=>?_
 simp (disch:=first|exact bd (by with_unfolding_all rfl)|fail) only[WA,Nat.reduceEqDiff,Nat.reduceLT,↓reduceIte,c24]
 refine l5 (by rw[hC];exact c1) rfl rfl (fun _=>rfl) ?_
 repeat' (first|(simp (disch:=fail) only[WA,m7,s8,Nat.reduceEqDiff,Nat.reduceLT,Nat.reduceAdd,Nat.reduceBEq,Int.reduceAdd,Int.reduceSub,Int.reduceLT,Int.reduceLE,Int.reduceEq,Int.reduceNeg,↓reduceIte,reduceCtorEq,List.replicate])|apply A2|((first|apply J4|apply A9|apply E9|apply J5|apply J3|apply F3)<;>intro _))
 refine a6 (by rw[hC];exact p1.flat rfl rfl) ?_
 simp (disch:=first|exact bd (by with_unfolding_all rfl)|(simp only[d6]<;>omega)) only[WA,Nat.reduceEqDiff,Nat.reduceLT,↓reduceIte]
 refine l5 (by rw[hC];exact c2) rfl rfl (fun _=>rfl) ?_
 simp (disch:=first|exact bd (by with_unfolding_all rfl)|(simp only[d6]<;>omega)) only[WA,Nat.reduceEqDiff,Nat.reduceLT,↓reduceIte]
 refine a6 (by rw[hC];exact p2.flat rfl rfl) ?_
 simp (disch:=first|exact bd (by with_unfolding_all rfl)|fail) only[WA,Nat.reduceEqDiff,Nat.reduceLT,↓reduceIte]
 refine l5 (by rw[hC];exact c3) rfl rfl (fun _=>rfl) ?_
 simp (disch:=first|exact bd (by with_unfolding_all rfl)|(simp only[d6]<;>omega)) only[WA,Nat.reduceEqDiff,Nat.reduceLT,↓reduceIte,FG]
 refine a6 (by rw[hC];exact p3.flat rfl rfl) ?_
 simp (disch:=first|exact bd (by with_unfolding_all rfl)|fail) only[WA,Nat.reduceEqDiff,Nat.reduceLT,↓reduceIte]
 refine l5 (by rw[hC];exact q1) rfl rfl (fun _=>rfl) ?_
 simp (disch:=first|exact bd (by with_unfolding_all rfl)|fail) only[WA,Nat.reduceEqDiff,Nat.reduceLT,↓reduceIte]
 refine l5 (by rw[hC];exact q2) rfl rfl (fun _=>rfl) ?_
 simp (disch:=first|exact bd (by with_unfolding_all rfl)|(simp only[d6]<;>omega)) only[WA,Nat.reduceEqDiff,Nat.reduceLT,Nat.reduceAdd,↓reduceIte,List.replicate]
 refine l5 (by rw[hC];exact q3) rfl rfl (fun _=>rfl) ?_
 simp (disch:=first|omega|exact bd (by with_unfolding_all rfl)|(simp only[d6]<;>omega)) only[WA,m7,s8,Nat.reduceEqDiff,Nat.reduceLT,Nat.reduceAdd,↓reduceIte,List.replicate,List.length_cons,List.length_nil]
 refine vM (by rw[hC];exact o1 _) ?_
 simp (disch:=fail) only[WA]
 refine Q4 (by rw[hC];exact s1.flat rfl (zO rfl)) ?_
 simp (disch:=first|exact bd (by with_unfolding_all rfl)|(simp only[d6]<;>omega)) only[WA,m7,s8,Nat.reduceEqDiff,Nat.reduceLT,Nat.reduceAdd,↓reduceIte]
 refine vM (by rw[hC];exact o2 _) ?_
 simp (disch:=fail) only[WA]
 refine Q4 (by rw[hC];exact s2.flat rfl (zO rfl)) ?_
 simp (disch:=first|omega|exact bd (by with_unfolding_all rfl)|(simp only[d6]<;>omega)) only[WA,m7,s8,Nat.reduceEqDiff,Nat.reduceLT,Nat.reduceAdd,↓reduceIte,BE,dlr]
 refine vM (by rw[hC];exact o3 _) ?_
 simp (disch:=fail) only[WA,BE,dlr]
 refine a6 (by rw[hC];exact s3.flat rfl (zO rfl)) ?_
 simp (disch:=first|exact bd (by with_unfolding_all rfl)|fail) only[WA,Nat.reduceEqDiff,Nat.reduceLT,↓reduceIte]
 refine a6 (by rw[hC];exact r1.flat rfl rfl) ?_
 simp (disch:=first|exact bd (by with_unfolding_all rfl)|fail) only[WA,Nat.reduceEqDiff,Nat.reduceLT,↓reduceIte,reduceCtorEq]
 refine a6 (by rw[hC];exact r2.flat rfl rfl) ?_
 repeat' (first|(simp (disch:=fail) only[WA,m7,s8,Nat.reduceEqDiff,Nat.reduceLT,Nat.reduceAdd,Nat.reduceBEq,Int.reduceAdd,Int.reduceSub,Int.reduceLT,Int.reduceLE,Int.reduceEq,Int.reduceNeg,↓reduceIte,reduceCtorEq,List.replicate])|apply A2|((first|apply J4|apply A9|apply E9|apply J5|apply J3|apply F3)<;>intro _))
 exact b8 rfl h0 rfl
end
set_option maxHeartbeats 1000000

theorem FI (k:Nat) (R:List (Bool × List n8)) (j:Nat) (hj:j<R.length):D0 (M8 k R) (j*2) none=some (.sc (.bool R[j]!.1)):=iI (JT k) 2 R (fun _=>rfl) j 0 hj (by decide)
theorem rW (k:Nat) (R:List (Bool × List n8)) (j:Nat) (hj:j<R.length):D0 (M8 k R) (j*2+1) none=some (.sl k R[j]!.2.length (r8 R[j]!.2)):=iI (JT k) 2 R (fun _=>rfl) j 1 hj (by decide)
def rG (c:qE):Bool:=(c.2.any fun r=>fG r.2.length)||decide (20<c.2.length∧c.2.length≤100∨110<c.2.length)
theorem bG4 (d:Bool):TZ true (.sc (.bool d)) (.sc (.bool d))=some (.sc (.bool false)):=by cases d<;>rfl
section
variable (w:World) (n:Nat)
theorem aE6 (s k:Nat) (c:qE) (hL:c.2.length≤140737488351232) (hK:SX c.2):m6 (EN w (n+2)) 25 [dB s k c] (.sc (.bool (rG c))) ⟨[],0,0⟩:=by
 obtain ⟨z,R⟩:=c
 simp only at hL hK
 have hil:=bG k R
 unfold rG
 simp only
 refine d7 rfl rfl (fun _ _=>rfl) (Nat.le_of_ble_eq_true rfl) (g9 w) rfl fun C hC h0=>?_
 have hrn:C.E.rounds=C6:=by rw[hC,k8]
 simp (disch:=first|omega|assumption|exact bd (by with_unfolding_all rfl)|exact Or.inl rfl|(simp only[d6]<;>omega)|fail) only[WA,Nat.reduceEqDiff,Nat.reduceLT,↓reduceIte,reduceCtorEq,c25]
 refine y6 (fun m fr st=>∃ j:Nat,m=R.length - j∧j≤R.length∧(R.any fun r=>fG r.2.length)=((R.drop j).any fun r=>fG r.2.length)∧fr= [(1,.ptr 0 0),(3,.sc (.int .i64 j))]∧st=⟨[(0,.box 52 1 [.sc (.int .i64 z),.sl s R.length (M8 k R)])],1,0⟩) R.length ?_ ⟨_,_,.refl _ _,0,by omega,Nat.zero_le _,rfl,rfl,rfl⟩ ?_
 ·rw[hrn];unfold C6;omega
 rintro m fr st ⟨j,rfl,hj,hinv,rfl,rfl⟩
 by_cases hlt:j<R.length
 ·have hRj:R.drop j=R[j]! ::R.drop (j+1):=by rw[List.drop_eq_getElem_cons hlt,getElem!_pos R j hlt]
  have hat:=rW k R j hlt
  have hm:=hK R[j]! (by rw[getElem!_pos R j hlt];exact List.getElem_mem hlt)
  have hg:=QE w n k R[j]!.2 hm.2
  rw[hRj,List.any_cons] at hinv
  generalize R[j]!.2=L at*
  rw[hinv]
  cases hb:fG L.length with
  |true=>
   rw[hb] at hg
   rw[Bool.true_or,Bool.true_or]
   simp (disch:=first|omega|assumption|exact bd (by with_unfolding_all rfl)|exact Or.inl rfl|(simp only[d6]<;>omega)|fail) only[WA,Nat.reduceEqDiff,Nat.reduceLT,↓reduceIte,LM,hat]
   all_goals try (exfalso;omega)
   refine a6 (by rw[hC];exact hg.flat rfl rfl) ?_
   simp (disch:=first|omega|assumption|exact bd (by with_unfolding_all rfl)|exact Or.inl rfl|(simp only[d6]<;>omega)|fail) only[WA,Nat.reduceEqDiff,Nat.reduceLT,↓reduceIte]
   exact b8 rfl h0 rfl
  |false=>
   rw[hb] at hg
   rw[hb,Bool.false_or] at hinv
   rw[Bool.false_or]
   simp (disch:=first|omega|assumption|exact bd (by with_unfolding_all rfl)|exact Or.inl rfl|(simp only[d6]<;>omega)|fail) only[WA,Nat.reduceEqDiff,Nat.reduceLT,↓reduceIte,LM,hat]
   all_goals try (exfalso;omega)
   refine a6 (by rw[hC];exact hg.flat rfl rfl) ?_
   simp (disch:=first|omega|assumption|exact bd (by with_unfolding_all rfl)|exact Or.inl rfl|(simp only[d6]<;>omega)|fail) only[WA,Nat.reduceEqDiff,Nat.reduceLT,↓reduceIte]
   rw[← hinv]
   exact ⟨R.length - (j+1),_,_,by omega,.refl _ _,j+1,rfl,by omega,hinv,rfl,rfl⟩
 ·have:j=R.length:=by omega
  subst this
  rw[List.drop_length] at hinv
  rw[hinv,List.any_nil,Bool.false_or]
  by_cases h1:20<R.length∧R.length≤100∨110<R.length
  ·rw[decide_eq_true h1]
   rcases h1 with h1|h1
   all_goals
    repeat' (first|(simp (disch:=first|omega|assumption|exact bd (by with_unfolding_all rfl)|exact Or.inl rfl|(simp only[d6]<;>omega)|fail) only[WA,Nat.reduceEqDiff,Nat.reduceLT,↓reduceIte,LM]))
    all_goals try (exfalso;omega)
    all_goals exact b8 rfl h0 rfl
  ·rw[decide_eq_false h1]
   repeat' (first|(simp (disch:=first|omega|assumption|exact bd (by with_unfolding_all rfl)|exact Or.inl rfl|(simp only[d6]<;>omega)|fail) only[WA,Nat.reduceEqDiff,Nat.reduceLT,↓reduceIte,LM])|(apply A9<;>intro _))
   all_goals try (exfalso;omega)
   all_goals exact b8 rfl h0 rfl
theorem QO (s k s' k':Nat) (c:qE) (hL:c.2.length≤140737488351232) (hK:SX c.2):m6 (EN w (n+2)) 26 [dB s k c,dB s' k' c] (.sc (.bool true)) ⟨[],0,0⟩:=by
 obtain ⟨z,R⟩:=c
 simp only at hL hK
 have hil:=bG k R
 have hil':=bG k' R
 refine d7 rfl rfl (fun _ _=>rfl) (Nat.le_of_ble_eq_true rfl) (g9 w) rfl fun C hC h0=>?_
 have hrn:C.E.rounds=C6:=by rw[hC,k8]
 simp (disch:=first|omega|assumption|exact bd (by with_unfolding_all rfl)|exact Or.inl rfl|(simp only[d6]<;>omega)|fail) only[WA,Nat.reduceEqDiff,Nat.reduceLT,Nat.reduceAdd,↓reduceIte,reduceCtorEq,c26]
 refine y6 (fun m fr st=>∃ j:Nat,m=R.length - j∧j≤R.length∧fr= [(2,.ptr 0 0),(3,.ptr 1 0),(5,.sc (.int .i64 j))]∧st=⟨[(1,.box 52 1 [.sc (.int .i64 z),.sl s' R.length (M8 k' R)]),(0,.box 52 1 [.sc (.int .i64 z),.sl s R.length (M8 k R)])],2,0⟩) R.length ?_ ⟨_,_,.refl _ _,0,by omega,Nat.zero_le _,rfl,rfl⟩ ?_
 ·rw[hrn];unfold C6;omega
 rintro m fr st ⟨j,rfl,hj,rfl,rfl⟩
 by_cases hlt:j<R.length
 ·have a1:=rW k R j hlt
  have a0:=FI k R j hlt
  have b1:=rW k' R j hlt
  have b0:=FI k' R j hlt
  have hm:=hK R[j]! (by rw[getElem!_pos R j hlt];exact List.getElem_mem hlt)
  have hs:=pS w n k k' R[j]!.2 R[j]!.2 hm.2 hm.2
  rw[decide_eq_true rfl] at hs
  generalize R[j]!.2=L at*
  generalize R[j]!.1=b at*
  simp (disch:=first|omega|assumption|exact bd (by with_unfolding_all rfl)|exact Or.inl rfl|(simp only[d6]<;>omega)|fail) only[WA,m7,s8,Nat.reduceEqDiff,Nat.reduceLT,↓reduceIte,reduceCtorEq,aM6,a1,a0,b1,b0,bG4]
  all_goals try (exfalso;omega)
  refine a6 (by rw[hC];exact hs.flat rfl rfl) ?_
  simp (disch:=first|omega|assumption|exact bd (by with_unfolding_all rfl)|exact Or.inl rfl|(simp only[d6]<;>omega)|fail) only[WA,Nat.reduceEqDiff,Nat.reduceLT,↓reduceIte]
  exact ⟨R.length - (j+1),_,_,by omega,.refl _ _,j+1,rfl,by omega,rfl,rfl⟩
 ·have:j=R.length:=by omega
  subst this
  simp (disch:=first|omega|assumption|exact bd (by with_unfolding_all rfl)|exact Or.inl rfl|(simp only[d6]<;>omega)|fail) only[WA,Nat.reduceEqDiff,Nat.reduceLT,↓reduceIte,reduceCtorEq,aM6]
  all_goals try (exfalso;omega)
  exact b8 rfl h0 rfl
end
set_option maxHeartbeats 4000000
theorem GY (c:UInt8):∀ (m:Nat) (s:List UInt8),s.length≤m→(n4 c s).length=s.count c+1
 |m,s,hm=>by
  rcases N3 c s with h1|⟨x,r,rfl,h1⟩
  ·rw[L1 h1,List.count_eq_zero.2 h1];rfl
  ·cases m with
   |zero=>simp at hm
   |succ m=>
    rw[E7 _ h1,List.length_cons,GY c m r (by simp at hm;omega),List.count_append,List.count_cons_self,List.count_eq_zero.2 h1]
    omega
theorem TM (L:List n8):(B5 L).2=0∨(B5 L).2=4∨(B5 L).2=8:=by
 unfold B5
 rcases mJ L with h|h|h
 ·rw[if_pos h]
  split
  ·exact .inr (.inl rfl)
  ·exact .inl rfl
 ·rw[if_neg (by omega)];exact .inr (.inl h)
 ·rw[if_neg (by omega)];exact .inr (.inr h)
theorem aY1 (b:Bool) (L:List n8) (z:Int) (h0:1≤z) (h1:z≤100):(C7 b L z).2=0∨(C7 b L z).2=4∨(C7 b L z).2=8:=by
 unfold C7
 rcases mJ L with h|h|h
 ·rw[if_pos h,if_neg (by omega)]
  have:=TM L
  split
  ·exact .inl rfl
  ·exact this
 ·rw[if_neg (by omega)];exact .inr (.inl h)
 ·rw[if_neg (by omega)];exact .inr (.inr h)
theorem xJ:∀ (R:List (Bool × List n8)) (z:Int),1≤z→z+R.length≤101→(y7 z R).2=0∨(y7 z R).2=4∨(y7 z R).2=8
 | [],z,_,_=> .inl rfl
 |r::R,z,h0,h1=>by
  simp only[List.length_cons] at h1
  have a:=aY1 r.1 r.2 z h0 (by omega)
  have b:=xJ R (z+1) (by omega) (by omega)
  rw[y7]
  split
  ·split
   ·exact .inl rfl
   ·exact b
  ·exact a
theorem TQ (c:qE):(s5 c).2=0∨(s5 c).2=4∨(s5 c).2=8:=by
 unfold s5
 split
 ·rename_i h
  have h1:=W5 h
  have:=xJ c.2 1 (by omega) (by omega)
  split
  ·split
   ·exact .inr (.inl rfl)
   ·exact .inl rfl
  ·exact this
 ·unfold T9
  split
  ·exact .inr (.inl rfl)
  ·split
   ·exact .inr (.inr rfl)
   ·exact tT c.2
theorem HV {c:qE} {s:List UInt8} (h:s5 c=(s,0)):s.count 10=c.2.length+1:=by
 have h1:=GY 10 s.length s (Nat.le_refl _)
 rw[aR h] at h1
 simp only[List.length_cons,List.length_append,W9,List.length_nil] at h1
 omega
set_option maxHeartbeats 8000000
abbrev chB (c:qE):Go.Itp.Obj:= .box 52 1 [.sc (.int .i64 c.1),.sl 3 c.2.length (M8 1 c.2)]
theorem KN (w:World) {C:C5} (hC:C.E=EN w 12) (h0:C.w0.nx=0) (c:qE) (b:List UInt8) (hb:b.length≤100000) {K:List KF} {P:A8}
  (hgo:gK C K (.exit 0) [(3,.ptr 0 0),(7,.sc (.bool true)),(13,m8 b),(15,.sc (.int .i64 (b.count 10))),(16,.sc (.int .i64 b.length)),(78,.sc (.bool false))] ⟨[(0,chB c)],1,0⟩ P) (st:l8) (hst:M3 C [(3,.ptr 0 0),(7,.sc (.bool true)),(13,m8 b),(15,.sc (.int .i64 0)),(16,.sc (.int .i64 0))] st [(3,.ptr 0 0),(7,.sc (.bool true)),(13,m8 b),(15,.sc (.int .i64 0)),(16,.sc (.int .i64 0))] ⟨[(0,chB c)],1,0⟩):
  gL C [3,7,13,15,16] aN3 K [(3,.ptr 0 0),(7,.sc (.bool true)),(13,m8 b),(15,.sc (.int .i64 0)),(16,.sc (.int .i64 0))] st P:=by
 have hrn:C.E.rounds=C6:=by rw[hC,k8]
 have hsz:=p8 b
 refine y6 (fun m fr st=>∃ j:Nat,m=b.length - j∧j≤b.length∧fr= [(3,.ptr 0 0),(7,.sc (.bool true)),(13,m8 b),(15,.sc (.int .i64 ((b.take j).count 10))),(16,.sc (.int .i64 j))]∧st=⟨[(0,chB c)],1,0⟩) b.length ?_ ⟨_,_,hst,0,by omega,Nat.zero_le _,rfl,rfl⟩ ?_
 ·rw[hrn];unfold C6;omega
 rintro m fr st ⟨j,rfl,hj,rfl,rfl⟩
 by_cases hlt:j<b.length
 ·have hix:=Q6 b .i64 (j:Int) (by omega) (by omega)
  rw[Int.toNat_natCast] at hix
  have htk:(b.take (j+1)).count 10=(b.take j).count 10+if b[j]! =10 then 1 else 0:=by
   rw[List.take_succ_eq_append_getElem hlt,List.count_append,List.count_singleton,getElem!_pos b j hlt]
   by_cases e:b[j]=10
   ·simp[e]
   ·simp[e]
  have hle:(b.take j).count 10≤b.length:=Nat.le_trans List.count_le_length (by rw[List.length_take];omega)
  have h10:((b[j]!.toNat:Nat):Int)=10↔b[j]! =10:=⟨fun h=>UInt8.toNat_inj.1 (show b[j]!.toNat=10 by omega),fun h=>by rw[h];rfl⟩
  generalize hT:(b.take j).count 10=T at*
  by_cases e:b[j]! =10
  ·rw[if_pos e] at htk
   have e:=h10.2 e
   generalize b[j]!.toNat=B at*
   simp (disch:=first|omega|assumption|exact bd (by with_unfolding_all rfl)|exact Or.inl rfl|(simp only[d6]<;>omega)|fail) only[WA,Nat.reduceEqDiff,Nat.reduceLT,↓reduceIte,aN3,hsz,hix,e]
   all_goals try (exfalso;omega)
   exact ⟨b.length - (j+1),_,_,by omega,.refl _ _,j+1,rfl,by omega,by rw[htk];rfl,rfl⟩
  ·rw[if_neg e,Nat.add_zero] at htk
   have e:¬ ((b[j]!.toNat:Nat):Int)=10:=fun h=>e (h10.1 h)
   generalize b[j]!.toNat=B at*
   simp (disch:=first|omega|assumption|exact bd (by with_unfolding_all rfl)|exact Or.inl rfl|(simp only[d6]<;>omega)|fail) only[WA,Nat.reduceEqDiff,Nat.reduceLT,↓reduceIte,aN3,hsz,hix,e]
   all_goals try (exfalso;omega)
   exact ⟨b.length - (j+1),_,_,by omega,.refl _ _,j+1,rfl,by omega,by rw[htk];rfl,rfl⟩
 ·have:j=b.length:=by omega
  subst this
  rw[List.take_length]
  generalize b.count 10=T at*
  simp (disch:=first|omega|assumption|exact bd (by with_unfolding_all rfl)|exact Or.inl rfl|(simp only[d6]<;>omega)|fail) only[WA,Nat.reduceEqDiff,Nat.reduceLT,↓reduceIte,aN3,hsz]
  exact hgo
theorem bD4 (w:World) (c:qE) (hKc:SX c.2) (x:Bool) (L:List n8) (hK:KP L) (z:Int) (hLc:c.2.length≤140737488351232) (hL:L.length≤140737488351232) {C:C5} (hC:C.E=EN w 12) (h0:C.w0.nx=0):
  gC C c7.code [] (R7 0 [dB 3 1 c,QK x 3 L,.sc (.int .i64 z)]) ⟨[],0,0⟩ (qI C c7.res (.sc (.bool true)) ⟨[],0,0⟩):=by
 have ha:=bE6 w 0
 have hgt:=aE6 w 10 3 1 c hLc hKc
 have hg:=QE w 11 3 L hL
 by_cases hgg:rG c=true∨fG L.length=true
 ·cases hgc:rG c with
  |true=>
   rw[hgc] at hgt
   simp (disch:=first|omega|assumption|exact bd (by with_unfolding_all rfl)|exact Or.inl rfl|(simp only[d6]<;>omega)|fail) only[WA,Nat.reduceEqDiff,Nat.reduceLT,Nat.reduceAdd,↓reduceIte,reduceCtorEq,c7]
   refine a6 (by rw[hC];exact ha.flat rfl rfl) ?_
   simp (disch:=first|omega|assumption|exact bd (by with_unfolding_all rfl)|exact Or.inl rfl|(simp only[d6]<;>omega)|fail) only[WA,Nat.reduceEqDiff,Nat.reduceLT,↓reduceIte,reduceCtorEq]
   refine a6 (by rw[hC];exact hgt.flat rfl rfl) ?_
   simp (disch:=first|omega|assumption|exact bd (by with_unfolding_all rfl)|exact Or.inl rfl|(simp only[d6]<;>omega)|fail) only[WA,Nat.reduceEqDiff,Nat.reduceLT,↓reduceIte]
   exact b8 rfl h0 rfl
  |false=>
   rw[hgc] at hgt
   rw[hgg.resolve_left (by rw[hgc];decide)] at hg
   simp (disch:=first|omega|assumption|exact bd (by with_unfolding_all rfl)|exact Or.inl rfl|(simp only[d6]<;>omega)|fail) only[WA,Nat.reduceEqDiff,Nat.reduceLT,Nat.reduceAdd,↓reduceIte,reduceCtorEq,c7]
   refine a6 (by rw[hC];exact ha.flat rfl rfl) ?_
   simp (disch:=first|omega|assumption|exact bd (by with_unfolding_all rfl)|exact Or.inl rfl|(simp only[d6]<;>omega)|fail) only[WA,Nat.reduceEqDiff,Nat.reduceLT,↓reduceIte,reduceCtorEq]
   refine a6 (by rw[hC];exact hgt.flat rfl rfl) ?_
   simp (disch:=first|omega|assumption|exact bd (by with_unfolding_all rfl)|exact Or.inl rfl|(simp only[d6]<;>omega)|fail) only[WA,Nat.reduceEqDiff,Nat.reduceLT,↓reduceIte]
   refine a6 (by rw[hC];exact hg.flat rfl rfl) ?_
   simp (disch:=first|omega|assumption|exact bd (by with_unfolding_all rfl)|exact Or.inl rfl|(simp only[d6]<;>omega)|fail) only[WA,Nat.reduceEqDiff,Nat.reduceLT,↓reduceIte]
   exact b8 rfl h0 rfl
 have hgc:rG c=false:=by cases h:rG c with|true=>exact absurd (.inl h) hgg|false=>rfl
 have hgl:fG L.length=false:=by cases h:fG L.length with|true=>exact absurd (.inr h) hgg|false=>rfl
 rw[hgc] at hgt
 rw[hgl] at hg
 clear hgc hgl hgg
 have t1:=ZY w 4 x 3 L z hL hK
 have hrl:=QJ (b:=x) (L:=L) (n:=z)
 have q1:=VH w 2 (C7 x L z).1 (by omega)
 have hr:(C7 x L z).2=0→dX (C7 x L z).1=some (x,L,z):=fun h=>pM (Prod.ext rfl h)
 have s1:=aH9 w 10 x x 3 3 L L hL hL
 rw[decide_eq_true ⟨rfl,rfl⟩] at s1
 have t2:=HW w 3 3 1 c hLc hKc
 have hce:=TQ c
 have hct:(s5 c).2=0→pO (s5 c).1=some c∧(s5 c).1.length≤60000∧(s5 c).1.count 10=c.2.length+1∧c.2.length≤100:=fun h=>by
  have e:s5 c=((s5 c).1,0):=Prod.ext rfl h
  obtain ⟨a1,a2,a3,a4⟩:=dJ h
  refine ⟨yS e,?_,HV e,(W5 a1).1⟩
  rw[a4];exact a3
 have g2:=fun h:(s5 c).1.length≤60000=>ZB w 1 (s5 c).1 (by omega)
 have s2:=QO w 10 3 3 3 1 c hLc hKc
 generalize C7 x L z=r at*
 obtain ⟨T,e⟩:=r
 generalize hF:s5 c=F at*
 obtain ⟨U,f⟩:=F
 simp only at t1 q1 hr t2 hce hct g2 hrl
 have hcnt:=fun K P (hb:U.length≤100000) hgo st hst=>KN w hC h0 c U hb (K:=K) (P:=P) hgo st hst
 by_cases he:e=0
 ·subst he
  rw[hr rfl] at q1
  unfold EP at q1
  simp only at q1
  clear hr
  by_cases hf:f=0
  ·subst hf
   obtain ⟨hc1,hc2,hc3,hc4⟩:=hct rfl
   have g2:=g2 hc2
   rw[hc1] at g2
   unfold PD at g2
   simp only at g2
   simp (disch:=first|omega|assumption|exact bd (by with_unfolding_all rfl)|exact Or.inl rfl|(simp only[d6]<;>omega)|fail) only[WA,Nat.reduceEqDiff,Nat.reduceLT,Nat.reduceAdd,↓reduceIte,reduceCtorEq,c7]
   refine a6 (by rw[hC];exact ha.flat rfl rfl) ?_
   simp (disch:=first|omega|assumption|exact bd (by with_unfolding_all rfl)|exact Or.inl rfl|(simp only[d6]<;>omega)|fail) only[WA,Nat.reduceEqDiff,Nat.reduceLT,↓reduceIte,reduceCtorEq]
   refine a6 (by rw[hC];exact hgt.flat rfl rfl) ?_
   simp (disch:=first|omega|assumption|exact bd (by with_unfolding_all rfl)|exact Or.inl rfl|(simp only[d6]<;>omega)|fail) only[WA,Nat.reduceEqDiff,Nat.reduceLT,↓reduceIte]
   refine a6 (by rw[hC];exact hg.flat rfl rfl) ?_
   simp (disch:=first|omega|assumption|exact bd (by with_unfolding_all rfl)|exact Or.inl rfl|(simp only[d6]<;>omega)|fail) only[WA,Nat.reduceEqDiff,Nat.reduceLT,↓reduceIte]
   refine a6 (by rw[hC];exact t1.flat rfl rfl) ?_
   simp (disch:=first|omega|assumption|exact bd (by with_unfolding_all rfl)|exact Or.inl rfl|(simp only[d6]<;>omega)|fail) only[WA,Nat.reduceEqDiff,Nat.reduceLT,↓reduceIte]
   refine l5 (by rw[hC];exact q1) rfl rfl (fun _=>rfl) ?_
   simp (disch:=first|omega|assumption|exact bd (by with_unfolding_all rfl)|exact Or.inl rfl|(simp only[d6]<;>omega)|fail) only[WA,Nat.reduceEqDiff,Nat.reduceLT,Nat.reduceAdd,↓reduceIte,List.replicate]
   refine a6 (by rw[hC];exact s1.flat rfl rfl) ?_
   simp (disch:=first|omega|assumption|exact bd (by with_unfolding_all rfl)|exact Or.inl rfl|(simp only[d6]<;>omega)|fail) only[WA,Nat.reduceEqDiff,Nat.reduceLT,↓reduceIte,reduceCtorEq]
   refine a6 (by rw[hC];exact t2.flat rfl rfl) ?_
   simp (disch:=first|omega|assumption|exact bd (by with_unfolding_all rfl)|exact Or.inl rfl|(simp only[d6]<;>omega)|fail) only[WA,Nat.reduceEqDiff,Nat.reduceLT,↓reduceIte]
   refine hcnt _ _ (by omega) ?_ _ (s9 [(0,0)] 1 h0 rfl rfl rfl rfl)
   simp (disch:=first|omega|assumption|exact bd (by with_unfolding_all rfl)|exact Or.inl rfl|(simp only[d6]<;>omega)|fail) only[WA,Nat.reduceEqDiff,Nat.reduceLT,↓reduceIte]
   refine l5 (by rw[hC];exact g2) rfl rfl (fun _=>rfl) ?_
   simp (disch:=first|omega|assumption|exact bd (by with_unfolding_all rfl)|exact Or.inl rfl|(simp only[d6]<;>omega)|fail) only[WA,Nat.reduceEqDiff,Nat.reduceLT,Nat.reduceAdd,↓reduceIte,reduceCtorEq,List.replicate]
   refine a6 (by rw[hC];exact s2.flat rfl rfl) ?_
   simp (disch:=first|omega|assumption|exact bd (by with_unfolding_all rfl)|exact Or.inl rfl|(simp only[d6]<;>omega)|fail) only[WA,Nat.reduceEqDiff,Nat.reduceLT,↓reduceIte,reduceCtorEq,hc3]
   all_goals try (exfalso;omega)
   exact b8 rfl h0 rfl
  ·have h48:=hce.resolve_left hf
   rcases h48 with rfl|rfl
   all_goals
    repeat' (first|(simp (disch:=first|omega|assumption|exact bd (by with_unfolding_all rfl)|exact Or.inl rfl|(simp only[d6]<;>omega)|fail) only[WA,Nat.reduceEqDiff,Nat.reduceLT,Nat.reduceAdd,↓reduceIte,reduceCtorEq,c7]))
    refine a6 (by rw[hC];exact ha.flat rfl rfl) ?_
    repeat' (first|(simp (disch:=first|omega|assumption|exact bd (by with_unfolding_all rfl)|exact Or.inl rfl|(simp only[d6]<;>omega)|fail) only[WA,Nat.reduceEqDiff,Nat.reduceLT,↓reduceIte,reduceCtorEq]))
    refine a6 (by rw[hC];exact hgt.flat rfl rfl) ?_
    repeat' (first|(simp (disch:=first|omega|assumption|exact bd (by with_unfolding_all rfl)|exact Or.inl rfl|(simp only[d6]<;>omega)|fail) only[WA,Nat.reduceEqDiff,Nat.reduceLT,↓reduceIte]))
    refine a6 (by rw[hC];exact hg.flat rfl rfl) ?_
    repeat' (first|(simp (disch:=first|omega|assumption|exact bd (by with_unfolding_all rfl)|exact Or.inl rfl|(simp only[d6]<;>omega)|fail) only[WA,Nat.reduceEqDiff,Nat.reduceLT,↓reduceIte]))
    refine a6 (by rw[hC];exact t1.flat rfl rfl) ?_
    repeat' (first|(simp (disch:=first|omega|assumption|exact bd (by with_unfolding_all rfl)|exact Or.inl rfl|(simp only[d6]<;>omega)|fail) only[WA,Nat.reduceEqDiff,Nat.reduceLT,↓reduceIte]))
    refine l5 (by rw[hC];exact q1) rfl rfl (fun _=>rfl) ?_
    repeat' (first|(simp (disch:=first|omega|assumption|exact bd (by with_unfolding_all rfl)|exact Or.inl rfl|(simp only[d6]<;>omega)|fail) only[WA,Nat.reduceEqDiff,Nat.reduceLT,Nat.reduceAdd,↓reduceIte,List.replicate]))
    refine a6 (by rw[hC];exact s1.flat rfl rfl) ?_
    repeat' (first|(simp (disch:=first|omega|assumption|exact bd (by with_unfolding_all rfl)|exact Or.inl rfl|(simp only[d6]<;>omega)|fail) only[WA,Nat.reduceEqDiff,Nat.reduceLT,↓reduceIte,reduceCtorEq]))
    refine a6 (by rw[hC];exact t2.flat rfl rfl) ?_
    repeat' (first|(simp (disch:=first|omega|assumption|exact bd (by with_unfolding_all rfl)|exact Or.inl rfl|(simp only[d6]<;>omega)|fail) only[WA,Nat.reduceEqDiff,Nat.reduceLT,Int.reduceEq,↓reduceIte]))
    all_goals try (exfalso;omega)
    all_goals exact b8 rfl h0 rfl
 ·clear hr q1
  by_cases hf:f=0
  ·subst hf
   obtain ⟨hc1,hc2,hc3,hc4⟩:=hct rfl
   have g2:=g2 hc2
   rw[hc1] at g2
   unfold PD at g2
   simp only at g2
   simp (disch:=first|omega|assumption|exact bd (by with_unfolding_all rfl)|exact Or.inl rfl|(simp only[d6]<;>omega)|fail) only[WA,Nat.reduceEqDiff,Nat.reduceLT,Nat.reduceAdd,↓reduceIte,reduceCtorEq,c7]
   refine a6 (by rw[hC];exact ha.flat rfl rfl) ?_
   simp (disch:=first|omega|assumption|exact bd (by with_unfolding_all rfl)|exact Or.inl rfl|(simp only[d6]<;>omega)|fail) only[WA,Nat.reduceEqDiff,Nat.reduceLT,↓reduceIte,reduceCtorEq]
   refine a6 (by rw[hC];exact hgt.flat rfl rfl) ?_
   simp (disch:=first|omega|assumption|exact bd (by with_unfolding_all rfl)|exact Or.inl rfl|(simp only[d6]<;>omega)|fail) only[WA,Nat.reduceEqDiff,Nat.reduceLT,↓reduceIte]
   refine a6 (by rw[hC];exact hg.flat rfl rfl) ?_
   simp (disch:=first|omega|assumption|exact bd (by with_unfolding_all rfl)|exact Or.inl rfl|(simp only[d6]<;>omega)|fail) only[WA,Nat.reduceEqDiff,Nat.reduceLT,↓reduceIte]
   refine a6 (by rw[hC];exact t1.flat rfl rfl) ?_
   simp (disch:=first|omega|assumption|exact bd (by with_unfolding_all rfl)|exact Or.inl rfl|(simp only[d6]<;>omega)|fail) only[WA,Nat.reduceEqDiff,Nat.reduceLT,↓reduceIte,reduceCtorEq,he]
   refine a6 (by rw[hC];exact t2.flat rfl rfl) ?_
   simp (disch:=first|omega|assumption|exact bd (by with_unfolding_all rfl)|exact Or.inl rfl|(simp only[d6]<;>omega)|fail) only[WA,Nat.reduceEqDiff,Nat.reduceLT,↓reduceIte]
   refine hcnt _ _ (by omega) ?_ _ (s9 [(0,0)] 1 h0 rfl rfl rfl rfl)
   simp (disch:=first|omega|assumption|exact bd (by with_unfolding_all rfl)|exact Or.inl rfl|(simp only[d6]<;>omega)|fail) only[WA,Nat.reduceEqDiff,Nat.reduceLT,↓reduceIte]
   refine l5 (by rw[hC];exact g2) rfl rfl (fun _=>rfl) ?_
   simp (disch:=first|omega|assumption|exact bd (by with_unfolding_all rfl)|exact Or.inl rfl|(simp only[d6]<;>omega)|fail) only[WA,Nat.reduceEqDiff,Nat.reduceLT,Nat.reduceAdd,↓reduceIte,reduceCtorEq,List.replicate]
   refine a6 (by rw[hC];exact s2.flat rfl rfl) ?_
   simp (disch:=first|omega|assumption|exact bd (by with_unfolding_all rfl)|exact Or.inl rfl|(simp only[d6]<;>omega)|fail) only[WA,Nat.reduceEqDiff,Nat.reduceLT,↓reduceIte,reduceCtorEq,hc3]
   all_goals try (exfalso;omega)
   exact b8 rfl h0 rfl
  ·have h48:=hce.resolve_left hf
   rcases h48 with rfl|rfl
   all_goals
    repeat' (first|(simp (disch:=first|omega|assumption|exact bd (by with_unfolding_all rfl)|exact Or.inl rfl|(simp only[d6]<;>omega)|fail) only[WA,Nat.reduceEqDiff,Nat.reduceLT,Nat.reduceAdd,↓reduceIte,reduceCtorEq,c7]))
    refine a6 (by rw[hC];exact ha.flat rfl rfl) ?_
    repeat' (first|(simp (disch:=first|omega|assumption|exact bd (by with_unfolding_all rfl)|exact Or.inl rfl|(simp only[d6]<;>omega)|fail) only[WA,Nat.reduceEqDiff,Nat.reduceLT,↓reduceIte,reduceCtorEq]))
    refine a6 (by rw[hC];exact hgt.flat rfl rfl) ?_
    repeat' (first|(simp (disch:=first|omega|assumption|exact bd (by with_unfolding_all rfl)|exact Or.inl rfl|(simp only[d6]<;>omega)|fail) only[WA,Nat.reduceEqDiff,Nat.reduceLT,↓reduceIte]))
    refine a6 (by rw[hC];exact hg.flat rfl rfl) ?_
    repeat' (first|(simp (disch:=first|omega|assumption|exact bd (by with_unfolding_all rfl)|exact Or.inl rfl|(simp only[d6]<;>omega)|fail) only[WA,Nat.reduceEqDiff,Nat.reduceLT,↓reduceIte]))
    refine a6 (by rw[hC];exact t1.flat rfl rfl) ?_
    repeat' (first|(simp (disch:=first|omega|assumption|exact bd (by with_unfolding_all rfl)|exact Or.inl rfl|(simp only[d6]<;>omega)|fail) only[WA,Nat.reduceEqDiff,Nat.reduceLT,↓reduceIte,reduceCtorEq,he]))
    refine a6 (by rw[hC];exact t2.flat rfl rfl) ?_
    repeat' (first|(simp (disch:=first|omega|assumption|exact bd (by with_unfolding_all rfl)|exact Or.inl rfl|(simp only[d6]<;>omega)|fail) only[WA,Nat.reduceEqDiff,Nat.reduceLT,Int.reduceEq,↓reduceIte]))
    all_goals try (exfalso;omega)
    all_goals exact b8 rfl h0 rfl
end Go.Proofs.YtimmmnanllcfoaaDoor
namespace Go.Proofs.YtimmmnanllcfoaaDoor
open Go Go.Itp
open Go.ChangeShapes Go.WideShapes Go.ChangeAt Go.RowKit
set_option linter.unusedVariables false
set_option maxRecDepth 100000
set_option maxHeartbeats 4000000
theorem PW:reachBytes≤140737488351232:=by decide
abbrev aL9:={x:n8 // x.kind<256}
instance:Inhabited aL9:=⟨⟨uE,by decide⟩⟩
def VY (x:aL9):List Value:= [.int .u8 x.1.kind,.bool x.1.purl,.int .i64 x.1.a,.int .i64 x.1.b]
theorem aN7:Tryd.prog.cellsOf 48=4:=by kernel_rfl
theorem HQ:Tryd.prog.bytesOf 48=24:=by kernel_rfl
theorem XE {H:Type} {enc:TypeId × Value→H} {W:World} {held:Bool} (cs:List Value) (n:Nat) (y:DataW H × List MemPlace) (hl:cs.length=4) (h:DataW.trod enc Tryd.prog W 0 (fun _=>true) held n 48 cs=some y):∃ x:aL9,cs=VY x:=by
 obtain ⟨m,a0,a1,a2,a3,rfl,⟨y0,h0⟩,⟨y1,h1⟩,⟨y2,h2⟩,y3,h3⟩:=aO9 Tryd.underlying48 rfl rfl rfl rfl (by kernel_rfl) (by kernel_rfl) (by kernel_rfl) (by kernel_rfl) cs n y hl h
 obtain ⟨x0,k0,_,j0⟩:=DataW.trod_int Tryd.underlying5 h0
 obtain ⟨x1,k1⟩:=vZ Tryd.underlying4 _ _ _ h1
 obtain ⟨x2,k2,_⟩:=DataW.trod_int Tryd.underlying3 h2
 obtain ⟨x3,k3,_⟩:=DataW.trod_int Tryd.underlying3 h3
 simp only[List.cons.injEq,and_true] at k0 k2 k3
 have b0:=wf8 j0
 obtain ⟨u0,rfl⟩:=Int.eq_ofNat_of_zero_le b0.1
 exact ⟨⟨⟨u0,x1,x2,x3⟩,by simp only;omega⟩,by rw[k0,k1,k2,k3];rfl⟩
theorem bF5:Tryd.prog.cellsOf 36=2:=by kernel_rfl
theorem WT:Tryd.prog.bytesOf 36=32:=by kernel_rfl
theorem bG0 {H:Type} {enc:TypeId × Value→H} {W:World} {held:Bool} (cs:List Value) (n:Nat) (y:DataW H × List MemPlace) (hl:cs.length=2) (h:DataW.trod enc Tryd.prog W 0 (fun _=>true) held n 36 cs=some y) (hsz:∀ m ∈ y.1.weights Tryd.prog 36,m≤reachBytes) (b o:Nat) (hc:∀ j,j<2→W.cell? ⟨b,o+j,none⟩=cs[j]?):
  ∃ a:Bool × List n8,(KP a.2∧a.2.length≤140737488351232)∧∀ j,j<2→∃ d u,(JT 1 a)[j]? =some d∧I7 W b (o+j)=some u∧u7 (sI (I7 W)) d u:=by
 obtain ⟨y0,y1,n,rfl,_,h0,h1⟩:=trod_struct2 Tryd.underlying36 h
 obtain ⟨a0,a1,rfl⟩:∃ a b,cs= [a,b]:=by
  rcases cs with _|⟨a,_|⟨b,_|⟨c,r⟩⟩⟩<;>simp at hl
  exact ⟨a,b,rfl⟩
 have h0:DataW.trod enc Tryd.prog W 0 (fun _=>true) held n 4 [a0]=some y0:=h0
 have h1:DataW.trod enc Tryd.prog W 0 (fun _=>true) held n 22 [a1]=some y1:=h1
 obtain ⟨x,rfl⟩:=vZ Tryd.underlying4 _ _ _ h0
 have c0:=hc 0 (by decide)
 have c1:=hc 1 (by decide)
 obtain ⟨m,u,hu,hm,hlr⟩:=aX4 (α:=aL9) (g:=VY) (q:=4) (by decide) (fun a=>⟨rfl,fun c hc=>by simp[VY] at hc;rcases hc with rfl|rfl|rfl|rfl<;>rfl⟩) Tryd.underlying22 aN7 (by rw[HQ];decide) h1 (fun m hm=>hsz m (by simp only[DataW.weights,Tryd.underlying36,List.map_cons,List.map_nil,DataW.weightsEach,List.mem_append];exact .inr (.inl hm))) (fun cs n y hl hy=>XE cs n y hl hy) c1
 rw[HQ] at hlr
 have hr:=PW
 obtain ⟨l,hl,hK,hlen⟩:∃ l:List n8,r8 l=m.flatMap (fun a=>(VY a).map D.sc)∧KP l∧l.length=m.length:=⟨m.map (·.1),by simp only[r8,List.flatMap_map];rfl,fun x hx=>by obtain ⟨a,_,rfl⟩:=List.mem_map.1 hx;exact a.2,by simp⟩
 rw[← hl,← hlen] at hm
 refine ⟨(x,l),⟨hK,by show l.length≤_;omega⟩,fun j hj=>?_⟩
 rcases (by omega:j=0∨j=1) with rfl|rfl
 ·exact ⟨_,_,rfl,nB c0 rfl,by simp only[u7,B8,and_self]⟩
 ·exact ⟨_,_,rfl,hu,hm⟩
theorem UZ {H:Type} {enc:TypeId × Value→H} {W:World} {b:Nat} {held:Bool} {v:Value} {d:DataW H} {ps:List MemPlace} (hv:Value.okWide Tryd.prog W .any b 52 v) (h:DataW.Trod enc Tryd.prog W 0 (fun _=>true) held 52 v d ps)
  (hsz:∀ n ∈ d.weights Tryd.prog 52,n≤reachBytes):
  ∃ c:qE,b7 (sI (I7 W)) (dB 3 1 c) v∧r5 0 v= []∧SX c.2∧c.2.length≤reachBytes:=by
 obtain ⟨n,a0,a1,y0,y1,rfl,e0,e1,h0,h1,w0,w1⟩:=OZ Tryd.underlying52 rfl rfl (by kernel_rfl) (by kernel_rfl) (by kernel_rfl) hv h hsz
 obtain ⟨z,k0,_,j0⟩:=DataW.trod_int Tryd.underlying3 h0
 simp only[List.cons.injEq,and_true] at k0
 subst k0
 obtain ⟨R,hR,hli,hlr,hP⟩:=PV (α:=Bool × List n8) (g:=JT 1) (q:=2) (by decide) (fun _=>rfl) Tryd.underlying50 bF5 (by rw[WT];decide) (fun a n c e=>by subst e;obtain ⟨u,hu⟩:=EI Tryd.underlying52 (i:=1) hv rfl;exact jE hu) h1 w1 (fun cs n y hl hy hw b o hc=>bG0 cs n y hl hy hw b o hc)
 rw[WT] at hlr
 refine ⟨(z,R),?_,?_,hP,by show R.length≤_;omega⟩
 ·rw[b7]
  refine ⟨[.int .i64 z,a1],rfl,?_⟩
  simp only[d8]
  exact ⟨_,_,rfl,.mksc rfl,_,_,rfl,hR,rfl⟩
 ·rw[YI,bF,bF,hli]
  rfl
theorem aU7 {H:Type} {enc:TypeId × Value→H} {W:World} {b:Nat} {held:Bool} {v:Value} {d:DataW H} {ps:List MemPlace} (hv:Value.okWide Tryd.prog W .any b 36 v) (h:DataW.Trod enc Tryd.prog W 0 (fun _=>true) held 36 v d ps)
  (hsz:∀ n ∈ d.weights Tryd.prog 36,n≤reachBytes):
  ∃ (x:Bool) (L:List n8),b7 (sI (I7 W)) (QK x 3 L) v∧r5 0 v= []∧KP L∧L.length≤reachBytes:=by
 obtain ⟨n,a0,a1,y0,y1,rfl,e0,e1,h0,h1,w0,w1⟩:=OZ Tryd.underlying36 rfl rfl (by kernel_rfl) (by kernel_rfl) (by kernel_rfl) hv h hsz
 obtain ⟨x,rfl⟩:=vZ Tryd.underlying4 _ _ _ h0
 obtain ⟨m,hm,hli,hlr⟩:=yP (α:=aL9) (g:=VY) (q:=4) (by decide) (fun a=>⟨rfl,fun c hc=>by simp[VY] at hc;rcases hc with rfl|rfl|rfl|rfl<;>rfl⟩) Tryd.underlying22 aN7 (by rw[HQ];decide) (fun a n c e=>by subst e;obtain ⟨u,hu⟩:=EI Tryd.underlying36 (i:=1) hv rfl;exact jE hu) h1 w1 (fun cs n y hl hy=>XE cs n y hl hy)
 rw[HQ] at hlr
 obtain ⟨l,hl,hK,hlen⟩:∃ l:List n8,r8 l=m.flatMap (fun a=>(VY a).map D.sc)∧KP l∧l.length=m.length:=⟨m.map (·.1),by simp only[r8,List.flatMap_map];rfl,fun x hx=>by obtain ⟨a,_,rfl⟩:=List.mem_map.1 hx;exact a.2,by simp⟩
 have hb:b7 (sI (I7 W)) (.sl 3 l.length (r8 l)) a1:=by rw[hl,hlen];exact hm
 refine ⟨x,l,?_,?_,hK,by omega⟩
 ·rw[b7]
  refine ⟨[.bool x,a1],rfl,?_⟩
  simp only[d8]
  exact ⟨_,_,rfl,.mksc rfl,_,_,rfl,hb,rfl⟩
 ·rw[YI,bF,bF,hli]
  rfl
def iZ:List (String × DataW Unit):= [("math/bits.deBruijn32tab",Rows.laid_math_bits_deBruijn32tab),("math/bits.deBruijn64tab",Rows.laid_math_bits_deBruijn64tab),("internal/strconv.uint64pow10",Rows.laid_internal_strconv_uint64pow10),("unicode/utf8.acceptRanges",Rows.laid_unicode_utf8_acceptRanges),("unicode/utf8.first",Rows.laid_unicode_utf8_first)]
theorem UQ (os:Os) (args:Array Value):laidMetH Tryd.prog iZ ((World.laidAll Tryd.prog os iZ).forCall (fun _ _=>0) ⟨#[],args,[]⟩).memory:=by
 rw[MakeChecks.laidMetH_plain _ _ _ (by kernel_rfl)]
 exact laidMet_laidAll _ (by kernel_rfl) (by kernel_rfl)
theorem BM (os:Os):(World.laidAll Tryd.prog os iZ).Shaped Tryd.prog:=World.shaped_of_ZipB (by kernel_rfl) (by kernel_rfl)
theorem aI2 {l:List TypeId} {t:TypeId} (hall:(l.all fun u=> !Tryd.prog.wantsStandIn u)=true) (h:t ∈ l):Tryd.prog.wantsStandIn t=false:=by
 have:=List.all_eq_true.1 hall t h
 simpa using this
theorem BU (os:Os) (started:os.Started) (H:Type) (enc:TypeId × Value→H):
  ReturnsInHanded {} Tryd.checked os 7 .any (fun w args=>(Rows.wordsPagesSpec.pre enc Tryd.prog Tryd.f7 [] false w args∧laidMetH Tryd.prog iZ w)∧sizedMet enc Tryd.prog Tryd.f7 (OpenSpec.ofChange Rows.wordsPagesSpec) false w args)
   (Rows.wordsPagesSpec.post enc Tryd.prog Tryd.f7 false true false false):=by
 refine aE8 (C:=Tryd.checked) (X:=fun w _=>laidMetH Tryd.prog iZ w) (fun _ _ _ hh h=>h.of_heap hh) own started (by kernel_rfl) Tryd.func7
  (ChangeSpec.witness_shaped (enc:=enc) (C:=Tryd.checked) (os:=os) (X:=fun w _=>laidMetH Tryd.prog iZ w) false (World.laidAll Tryd.prog os iZ) #[.agg #[.int .i64 0,.slice none 0 0],.agg #[.bool false,.slice none 0 0],.int .i64 0] 8 (World.laidAll_os _ _ _) (BM os) (by kernel_rfl) (by kernel_rfl) (by kernel_rfl) (UQ os _)) ?_
 intro W base args ds gs before hval0 hW hsz0 hL hsh
 have hval:∀ (j:Nat) t v,Tryd.f7.params[j]? =some t→args[j]? =some v→Value.okWide Tryd.prog W .any base t v:=hval0
 have hW':=hW
 obtain ⟨p,q,hA0,hV,rfl,hfz,hnd⟩:=hW
 have hA:DataW.TrodAll enc Tryd.prog W 0 (fun _=>true) true Tryd.f7.params.toList args.toList ds p:=hA0
 have hsz:(DataW.weightsEach Tryd.prog (Tryd.f7.params.toList++Rows.wordsPagesSpec.plain.varTypes Tryd.prog) (ds++gs)).all (· ≤reachBytes)=true:=hsz0
 rw[Tryd.params7] at hA hval hsz
 obtain ⟨v0,vs0,d0,ds0,p0,q0,hargs,rfl,rfl,h0,r0⟩:=trodAll_cons hA
 obtain ⟨v1,vs1,d1,ds1,p1,q1,rfl,rfl,rfl,h1,r1⟩:=trodAll_cons r0
 obtain ⟨v2,vs2,d2,ds2,p2,q2,rfl,rfl,rfl,h2,r2⟩:=trodAll_cons r1
 obtain ⟨rfl,rfl,rfl⟩:=trodAll_nil r2
 obtain rfl:args=#[v0,v1,v2]:=by cases args;simp_all
 have hr:=PW
 obtain ⟨c0,hv0,hli0,hKc0,hl0⟩:=UZ (hval 0 52 v0 rfl rfl) h0 (BA (j:=0) hsz rfl rfl)
 obtain ⟨b1,l1,hv1,hli1,hK1,hl1⟩:=aU7 (hval 1 36 v1 rfl rfl) h1 (BA (j:=1) hsz rfl rfl)
 obtain ⟨x2,rfl,hx2⟩:=aU6 Tryd.underlying3 (hval 2 3 v2 rfl rfl) h2
 have hLm:laidMet Tryd.prog iZ W:=by rw[← MakeChecks.laidMetH_plain _ _ _ (by kernel_rfl)];exact hL
 have hmx:BW W:=cell_of_shapedOpen_int (P:=Tryd.prog) (g:=0) (t:=3) (zero:=#[.int .i64 0]) hsh (of_decide_eq_true (by kernel_rfl)) (by kernel_rfl) rfl (by kernel_rfl) (by kernel_rfl) Tryd.underlying3
 have htab0:Lib.TabIs Tryd.prog W "internal/strconv.uint64pow10" .u64 Lib.pow10Tab:=aT2 hLm 2 rfl (g:=1) (t:=145) (e:=135) (k:= .u64) (m:=20) (by kernel_rfl) (by kernel_rfl) Tryd.underlying145 Tryd.underlying135 (by kernel_rfl) (by kernel_rfl) rfl
 obtain ⟨s',hbody⟩:=cD8 (old:=I7 W) (rounds:=C6) (fns:=fns) (prims:=PR W) (n:=12) (af:=c7) (xs:= [dB 3 1 c0,QK b1 3 l1,.sc (.int .i64 x2)]) (xsI:= [v0,v1,.int .i64 x2]) (x:= .bool true) (Nat.le_of_ble_eq_true rfl)
  (by simp only[d8];exact ⟨_,_,rfl,hv0,_,_,rfl,hv1,_,_,rfl,.mksc rfl,rfl⟩) fun C hC hn=>bD4 W c0 hKc0 b1 l1 hK1 x2 (by omega) (by omega) hC hn
 have hfn:fns 7=some c7:=rfl
 have hrv:r5 0 (.bool true)= []:=rfl
 refine (bU1 (W:=W) ⟨htab0,hmx⟩ (f:=7) (af:=c7) hfn (xs:= [v0,v1,.int .i64 x2]) (by simp only[bF,hli0,hli1];rfl) _ hbody hrv).mono fun e W' ⟨he,hbe⟩=>?_
 exact ⟨_,he,aT3 hW' rfl rfl (by kernel_rfl) (by kernel_rfl) Tryd.underlying4 hbe⟩
theorem SP:Rows.WordsPagesSaid:=
 OpenClaim.holds_of_wide 7 Tryd.f7 rfl rfl rfl rfl rfl rfl rfl ⟨rfl,rfl,rfl,rfl,rfl⟩ rfl rfl rfl rfl rfl (by kernel_rfl) Tryd.func7 (by kernel_rfl)
  (of_decide_eq_true (by kernel_rfl)) (by unfold Func.isWrapper;first|(rw[if_pos (by decide+kernel)];kernel_rfl)|(rw[if_neg (by decide+kernel)];exact ⟨rfl,rfl⟩))
  (fun os started H enc _=>BU os started H enc)
theorem wpages_holds:Rows.WordsPagesCardSaid:=
 Claim7.holds_tied_plain_at .later [] [.data,.data,.data,.data,.pinned] true _ false
  SP (fun _ h=>by cases h) (by kernel_rfl) (fun _ h=>by cases h) wordsPages_row_tie rfl ⟨rfl,rfl⟩ (by kernel_rfl) rfl
  (fun f fn hf hfn=>by
   obtain rfl:f=7:=Option.some.inj ((show Tryd.prog.funcNamed "raddle/raddlelaw41.WordsPages"=some 7 by kernel_rfl).symm.trans hf)|>.symm
   obtain rfl:fn=Tryd.f7:=(Option.some.inj (Tryd.func7.symm.trans hfn)).symm
   exact ⟨by kernel_rfl,fun j t ht=>aI2 (l:= [52,36,3]) (by kernel_rfl) (by rw[Tryd.params7] at ht;simpa using Array.mem_of_getElem? ht)⟩)
  (by kernel_rfl)
#print axioms wpages_holds
end Go.Proofs.YtimmmnanllcfoaaDoor
