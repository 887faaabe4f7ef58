/- What is proved: the law WordsBack returns true for every input. Conditions: none beyond the card's own.
   Texts: Q41k, Q41l, Q41m, Q41n, Q41o, P41g, P41h, P41i, Q42g, Q42h, Q42i, Q41p, Q41q, Q41r, Q41u, Q41v, Q41w, Q42c, Q42d, Q42e, Q42f, Q42j, Q42k, Q42l.
-/
import Derived.Test.YtimmmnanllcfoaaDoorPart5
import Derived.Test.YtimmmnanllcfoaaDoorCards
import Derived.Test.YtimmmnanllcfoaaDoorTie
import Derived.SizedLaws
import Derived.ChangeAt
import Derived.SevenTiedAt
import Derived.Stop.Joined
import Derived.Lay
namespace Go.Proofs.YtimmmnanllcfoaaDoor
open Go Go.Itp
set_option maxRecDepth 100000
set_option maxHeartbeats 400000
set_option linter.unusedSimpArgs false
set_option linter.unusedVariables false
abbrev vE (p:List o9 × Int):V:= .tup [.sl 3 p.1.length (s5 p.1),.sc (.int .i64 p.2)]
theorem O4 (nx t:Nat) (a b c d:Value):N2 nx t 4 1 [.int .u8 0,.bool false,.int .i64 0,.int .i64 0] [(0,4,.agg [.sc a,.sc b,.sc c,.sc d])]=some (.ref nx 0 1 1,some (.row t 4 false false [.sc a,.sc b,.sc c,.sc d]),[]):=(rfl)
theorem cD {H:E3} {o t n:Nat} {z:Bool} {l:List D} (h:f7 H o=some (.gro t 4 z l)) (hl:l.length=n*4):x6 H (.gr 2 o n)=some (.sl 2 n l):=by
 simp only[x6,cU,h]
 rw[if_pos ⟨hl,by decide,by decide,by decide⟩]
 rfl
theorem FC {H:E3} {v v':V} (h:x6 H v=some v'):J6 H [v]=some [v']:=by simp only[J6,h,Option.bind_some,Option.map_some]
theorem aW1 (A B:List o9):s5 (A++B)=s5 A++s5 B:=by simp[s5]
theorem FK (A:List o9) (x:o9):s5 (A++ [x])=s5 A++ [.sc (.int .u8 x.kind),.sc (.bool x.purl),.sc (.int .i64 x.a),.sc (.int .i64 x.b)]:=by simp[s5]
theorem ZR (a b:Go.Itp.Obj):∀ o ob,f7 ([(0,a),(1,b)]:E3) o=some ob→f7 ([(1,b),(0,a)]:E3) o=some ob:=by
 intro o ob
 rcases (by omega:o=0∨o=1∨2≤o) with rfl|rfl|h
 ·exact id
 ·exact id
 ·intro e
  rw[k7,if_neg (by omega),k7,if_neg (by omega)] at e
  cases e
section
variable (w:World) (n:Nat)
theorem aR5 {C:C5} (hC:C.E=EN w (n+8)) (h0:C.w0.nx=0) (s:List UInt8) (q:List (List UInt8)) (np k:Int) (acc:List o9) (x:o9) (m:Nat) (hm:acc.length+m≤200) {K:List KF} {P:B5}
  (hgo:gK C K (.exit 2) [(0,m9 s),(4,.gr 2 0 (acc++List.replicate m x).length),(7,.ptr 1 0),(16,.sl 3 q.length (q.map sD)),(17,.sc (.int .i64 np)),(18,.sc (.int .i64 k)),(37,.sc (.int .i64 m)),(38,.sc (.int .i64 m)),(39,.sc (.bool false))] ⟨[(0,.gro 48 4 false (s5 (acc++List.replicate m x))),(1,cK x)],2,0⟩ P):
  gL C [0,4,7,16,17,18,37,38] VJ K [(0,m9 s),(4,.gr 2 0 acc.length),(7,.ptr 1 0),(16,.sl 3 q.length (q.map sD)),(17,.sc (.int .i64 np)),(18,.sc (.int .i64 k)),(37,.sc (.int .i64 m)),(38,.sc (.int .i64 0))] ⟨[(1,cK x),(0,.gro 48 4 false (s5 acc))],2,0⟩ P:=by
 have hrn:C.E.rounds=E8:=by rw[hC,l6]
 refine A0 (fun mm fr st=>∃ i:Nat,mm=m - i∧i≤m∧fr= [(0,m9 s),(4,.gr 2 0 (acc++List.replicate i x).length),(7,.ptr 1 0),(16,.sl 3 q.length (q.map sD)),(17,.sc (.int .i64 np)),(18,.sc (.int .i64 k)),(37,.sc (.int .i64 m)),(38,.sc (.int .i64 i))]∧st=⟨[(0,.gro 48 4 false (s5 (acc++List.replicate i x))),(1,cK x)],2,0⟩) m ?_ ⟨_,_,aG9 (ZR _ _),0,by omega,Nat.zero_le _,by simp,by simp⟩ ?_
 ·rw[hrn];unfold E8;omega
 rintro mm fr st ⟨i,rfl,hi,rfl,rfl⟩
 by_cases hlt:i<m
 ·have hsn:=FK (acc++List.replicate i x) x
  have hl:(acc++List.replicate i x).length=acc.length+i:=by simp
  have hd:=z6 (acc++List.replicate i x)
  have hrs:acc++List.replicate (i+1) x=acc++List.replicate i x++ [x]:=by rw[List.replicate_succ'];simp
  rw[hl] at hd ⊢
  generalize acc++List.replicate i x=A at*
  generalize s5 A=AD at*
  obtain ⟨xk,xp,xa,xb⟩:=x
  simp (disch:=first|omega|exact bd (by with_unfolding_all rfl)|(simp only[j4]<;>omega)) only[WA,Nat.reduceEqDiff,Nat.reduceLT,Nat.reduceAdd,↓reduceIte,reduceCtorEq,VJ,O4]
  all_goals try (exfalso;omega)
  refine ⟨m - (i+1),_,_,by omega,u6 [(3,0),(1,1)] 2 h0 rfl rfl rfl rfl,i+1,rfl,by omega,?_,?_⟩
  ·rw[hrs,List.length_append,hl];rfl
  ·rw[hrs,hsn];rfl
 ·have:i=m:=by omega
  subst this
  generalize s5 (acc++List.replicate i x)=AD at*
  generalize (acc++List.replicate i x).length=al at*
  simp (disch:=first|omega|exact bd (by with_unfolding_all rfl)|fail) only[WA,Nat.reduceEqDiff,Nat.reduceLT,↓reduceIte,reduceCtorEq,VJ]
  exact hgo
theorem IT (s:List UInt8):F5 s=if 2000<s.length then (([]:List o9),(12:Int)) else if s=L1 then (([]:List o9),(0:Int)) else match rH (r9 s) [] with
  |none=>(([]:List o9),(12:Int))
  |some L=>if M5 L=0∧A6 L=s then (L,(0:Int)) else (([]:List o9),(12:Int)):=by
 unfold F5 Y4
 by_cases h1:2000<s.length
 ·simp only[if_pos h1]
 simp only[if_neg h1]
 by_cases h2:s=L1
 ·simp only[if_pos h2]
 simp only[if_neg h2]
 cases rH (r9 s) [] with
 |none=>rfl
 |some L=>
  by_cases h3:M5 L=0∧A6 L=s
  ·simp only[if_pos h3]
  ·simp only[if_neg h3]
theorem jA (s:List UInt8) (hs:s.length≤100000):m7 (EN w (n+9)) 12 [m9 s] (vE (F5 s)) ⟨[],0,0⟩:=by
 have hsz:=p6 s
 rw[IT]
 by_cases h1:2000<s.length
 ·rw[if_pos h1]
  refine y6 rfl rfl (fun _ _=>rfl) (Nat.le_of_ble_eq_true rfl) (g9 w) G0 rfl fun C hC h0=>?_
  simp (disch:=first|omega|exact bd (by with_unfolding_all rfl)|fail) only[WA,Nat.reduceEqDiff,Nat.reduceLT,↓reduceIte,reduceCtorEq,c12,hsz]
  all_goals try (exfalso;omega)
  exact K4 h0 rfl
 rw[if_neg h1]
 have hnt:((⟨s.toArray⟩:ByteArray)=⟨#[110,111,116,104,105,110,103]⟩)=(s=L1):=aF s L1
 by_cases h2:s=L1
 ·rw[if_pos h2]
  refine y6 rfl rfl (fun _ _=>rfl) (Nat.le_of_ble_eq_true rfl) (g9 w) G0 rfl fun C hC h0=>?_
  rw[eq_true h2] at hnt
  have hl7:s.length≤2000:=by omega
  simp (disch:=first|omega|exact bd (by with_unfolding_all rfl)|(simp only[j4]<;>omega)) only[WA,Nat.reduceEqDiff,Nat.reduceLT,↓reduceIte,reduceCtorEq,c12,hsz,hnt]
  all_goals try (exfalso;omega)
  exact K4 h0 rfl
 rw[if_neg h2]
 have hsp:=aV9 w (n+2) s (by omega)
 have hsl:=fO s
 have hsm:=nD s
 have hsn:=rO s
 generalize r9 s=q at*
 refine y6 rfl rfl (fun _ _=>rfl) (Nat.le_of_ble_eq_true rfl) (g9 w) (by
  cases rH q [] with
  |none=>exact G0
  |some L=>simp only;split<;>exact G0) rfl fun C hC h0=>?_
 have hrn:C.E.rounds=E8:=by rw[hC,l6]
 simp (disch:=first|omega|exact bd (by with_unfolding_all rfl)|fail) only[WA,Nat.reduceEqDiff,Nat.reduceLT,↓reduceIte,reduceCtorEq,c12,hsz,hnt,h2]
 all_goals try (exfalso;omega)
 refine k9 (by rw[hC];exact hsp) rfl rfl (fun _=>rfl) ?_
 simp (disch:=first|exact bd (by with_unfolding_all rfl)|fail) only[WA,Nat.reduceEqDiff,Nat.reduceLT,↓reduceIte,reduceCtorEq]
 refine A0 (fun m fr st=>∃ (k:Nat) (acc:List o9),m=q.length - k∧k≤q.length∧acc.length≤200∧(∀ x ∈ acc,G4 x)∧rH q []=rH (q.drop k) acc∧fr= [(0,m9 s),(4,.gr 2 0 acc.length),(16,.sl 3 q.length (q.map sD)),(17,.sc (.int .i64 q.length)),(18,.sc (.int .i64 k))]∧st=⟨[(0,.gro 48 4 false (s5 acc))],1,0⟩) q.length ?_ ⟨_,_,O7 4 48 4 rfl,0,[],by omega,Nat.zero_le _,Nat.zero_le _,(fun x hx=>by cases hx),rfl,rfl,rfl⟩ ?_
 ·rw[hrn];unfold E8;omega
 rintro m fr st ⟨k,acc,rfl,hk,hal,hap,hraw,rfl,rfl⟩
 by_cases hlt:k<q.length
 ·have hqk:q.drop k=q[k]! ::q.drop (k+1):=by rw[List.drop_eq_getElem_cons hlt,getElem!_pos q k hlt]
  have hpl:=hsm q[k]! (by rw[getElem!_pos q k hlt];exact List.getElem_mem hlt)
  have hrd:=bS7 w n q[k]! (by omega)
  rw[hqk,rH] at hraw
  generalize hp:q[k]! =p at*
  cases hr:dS p with
  |none=>
   rw[hr] at hrd hraw
   rw[hraw]
   unfold aT7 at hrd
   simp (disch:=first|omega|exact bd (by with_unfolding_all rfl)|fail) only[WA,Nat.reduceEqDiff,Nat.reduceLT,↓reduceIte,reduceCtorEq,uY,hp]
   all_goals try (exfalso;omega)
   refine a6 (by rw[hC];exact hrd.flat rfl rfl) ?_
   simp (disch:=first|exact bd (by with_unfolding_all rfl)|(simp only[j4]<;>omega)) only[WA,Nat.reduceEqDiff,Nat.reduceLT,Nat.reduceAdd,↓reduceIte,reduceCtorEq,List.replicate]
   exact K4 h0 rfl
  |some xm=>
   obtain ⟨x,z⟩:=xm
   obtain ⟨hx,hz,hps⟩:=yG hr
   rw[hr] at hrd hraw
   simp only at hraw
   unfold aT7 at hrd
   obtain ⟨m,rfl⟩:=Int.eq_ofNat_of_zero_le (show 0≤z by omega)
   by_cases hgt:200<(acc.length:Int)+(m:Int)
   ·rw[if_pos hgt] at hraw
    rw[hraw]
    obtain ⟨xk,xp,xa,xb⟩:=x
    simp (disch:=first|omega|exact bd (by with_unfolding_all rfl)|fail) only[WA,Nat.reduceEqDiff,Nat.reduceLT,↓reduceIte,reduceCtorEq,uY,hp]
    all_goals try (exfalso;omega)
    refine a6 (by rw[hC];exact hrd.flat rfl rfl) ?_
    simp (disch:=first|omega|exact bd (by with_unfolding_all rfl)|(simp only[j4]<;>omega)) only[WA,Nat.reduceEqDiff,Nat.reduceLT,Nat.reduceAdd,↓reduceIte,reduceCtorEq,List.replicate]
    all_goals try (exfalso;omega)
    exact K4 h0 rfl
   ·rw[if_neg hgt,Int.toNat_natCast] at hraw
    have hin:=fun K P hg=>aR5 w n hC h0 s q q.length k acc x m (by omega) (K:=K) (P:=P) hg
    obtain ⟨xk,xp,xa,xb⟩:=x
    simp (disch:=first|omega|exact bd (by with_unfolding_all rfl)|fail) only[WA,Nat.reduceEqDiff,Nat.reduceLT,↓reduceIte,reduceCtorEq,uY,hp]
    all_goals try (exfalso;omega)
    refine a6 (by rw[hC];exact hrd.flat rfl rfl) ?_
    simp (disch:=first|omega|exact bd (by with_unfolding_all rfl)|(simp only[j4]<;>omega)) only[WA,Nat.reduceEqDiff,Nat.reduceLT,Nat.reduceAdd,↓reduceIte,reduceCtorEq,List.replicate]
    all_goals try (exfalso;omega)
    refine hin _ _ ?_
    generalize hA:acc++List.replicate m ⟨xk,xp,xa,xb⟩=A at*
    have hAl:A.length≤200:=by rw[← hA];simp;omega
    have hAp:∀ y ∈ A,G4 y:=fun y hy=>by
     rw[← hA] at hy
     rcases List.mem_append.1 hy with hy|hy
     ·exact hap y hy
     ·rw[List.eq_of_mem_replicate hy];exact hx
    simp (disch:=first|omega|exact bd (by with_unfolding_all rfl)|fail) only[WA,Nat.reduceEqDiff,Nat.reduceLT,↓reduceIte,reduceCtorEq]
    exact ⟨q.length - (k+1),_,_,by omega,u6 [(0,0)] 1 h0 rfl rfl rfl rfl,k+1,A,rfl,by omega,hAl,hAp,hraw,rfl,rfl⟩
 ·have:k=q.length:=by omega
  subst this
  rw[List.drop_length,rH] at hraw
  rw[hraw]
  simp only
  have hd:=z6 acc
  have ha:=JC w (n+2) 2 acc (by omega) fun y hy=>by have:=(hap y hy).bounds;omega
  have hwr:=fun hok=>ZK w (n+4) 2 acc hal hok
  have hok0:=fun h:M5 acc=0=>(O0 h).2.1
  have h1:∀ st:l9,f7 st.own 0=some (.gro 48 4 false (s5 acc))→J6 st.own [.gr 2 0 acc.length]=some [.sl 2 acc.length (s5 acc)]:=fun st h=>FC (cD h hd)
  have hfin:x6 ([(0,.gro 48 4 false (s5 acc))]:E3) (.gr 2 0 acc.length)=some (.sl 2 acc.length (s5 acc)):=cD rfl hd
  by_cases h3:M5 acc=0
  ·have hwr:=hwr (hok0 h3)
   rw[h3] at ha
   have hmj:((⟨(A6 acc).toArray⟩:ByteArray)=⟨s.toArray⟩)=(A6 acc=s):=aF _ _
   by_cases h4:A6 acc=s
   ·rw[if_pos ⟨h3,h4⟩]
    rw[h4] at hwr
    simp (disch:=first|omega|exact bd (by with_unfolding_all rfl)|fail) only[WA,Nat.reduceEqDiff,Nat.reduceLT,↓reduceIte,reduceCtorEq,uY]
    all_goals try (exfalso;omega)
    refine a6 (by rw[hC];exact ha.flat rfl (h1 _ rfl)) ?_
    simp (disch:=first|exact bd (by with_unfolding_all rfl)|fail) only[WA,Nat.reduceEqDiff,Nat.reduceLT,↓reduceIte,reduceCtorEq]
    refine a6 (by rw[hC];exact hwr.flat rfl (h1 _ rfl)) ?_
    simp (disch:=first|exact bd (by with_unfolding_all rfl)|fail) only[WA,Nat.reduceEqDiff,Nat.reduceLT,↓reduceIte,reduceCtorEq]
    exact R5 (s:=2) (n:=acc.length) (l:=s5 acc) hfin rfl (.inl (by decide)) h0 rfl
   ·rw[if_neg fun h=>h4 h.2]
    rw[eq_false h4] at hmj
    generalize A6 acc=W at*
    simp (disch:=first|omega|exact bd (by with_unfolding_all rfl)|fail) only[WA,Nat.reduceEqDiff,Nat.reduceLT,↓reduceIte,reduceCtorEq,uY]
    all_goals try (exfalso;omega)
    refine a6 (by rw[hC];exact ha.flat rfl (h1 _ rfl)) ?_
    simp (disch:=first|exact bd (by with_unfolding_all rfl)|fail) only[WA,Nat.reduceEqDiff,Nat.reduceLT,↓reduceIte,reduceCtorEq]
    refine a6 (by rw[hC];exact hwr.flat rfl (h1 _ rfl)) ?_
    simp (disch:=first|exact bd (by with_unfolding_all rfl)|(simp only[j4]<;>omega)) only[WA,Nat.reduceEqDiff,Nat.reduceLT,↓reduceIte,reduceCtorEq,hmj]
    exact K4 h0 rfl
  ·rw[if_neg fun h=>h3 h.1]
   generalize M5 acc=e at*
   simp (disch:=first|omega|exact bd (by with_unfolding_all rfl)|fail) only[WA,Nat.reduceEqDiff,Nat.reduceLT,↓reduceIte,reduceCtorEq,uY]
   all_goals try (exfalso;omega)
   refine a6 (by rw[hC];exact ha.flat rfl (h1 _ rfl)) ?_
   simp (disch:=first|omega|exact bd (by with_unfolding_all rfl)|fail) only[WA,Nat.reduceEqDiff,Nat.reduceLT,↓reduceIte,reduceCtorEq]
   all_goals try (exfalso;omega)
   exact K4 h0 rfl
end
set_option maxHeartbeats 1000000
section
variable (w:World) (n:Nat)
theorem tU (s:Nat) (L:List o9) (hL:L.length≤140737488351232) (hK:RV L):m7 (EN w (n+7)) 10 [.sl s L.length (s5 L)] (.tup [m9 (y7 L).1,.sc (.int .i64 (y7 L).2)]) ⟨[],0,0⟩:=by
 have ha:=JC w n s L hL hK
 unfold y7
 by_cases h0:M5 L=0
 ·rw[h0] at ha
  rw[if_pos h0]
  have hok:=O0 h0
  have hw:=ZK w (n+2) s L hok.1 hok.2.1
  generalize A6 L=W at*
  have hsz:=p6 W
  by_cases h2:2000<W.length
  ·rw[if_pos h2]
   refine d6 rfl rfl (fun _ _=>rfl) (Nat.le_of_ble_eq_true rfl) (g9 w) rfl fun C hC h0=>?_
   simp (disch:=first|exact bd (by with_unfolding_all rfl)|fail) only[WA,Nat.reduceEqDiff,Nat.reduceLT,↓reduceIte,reduceCtorEq,c10]
   refine a6 (by rw[hC];exact ha.flat rfl rfl) ?_
   simp (disch:=first|exact bd (by with_unfolding_all rfl)|fail) only[WA,Nat.reduceEqDiff,Nat.reduceLT,↓reduceIte,reduceCtorEq]
   refine a6 (by rw[hC];exact hw.flat rfl rfl) ?_
   simp (disch:=first|omega|exact bd (by with_unfolding_all rfl)|fail) only[WA,Nat.reduceEqDiff,Nat.reduceLT,↓reduceIte,hsz]
   all_goals try (exfalso;omega)
   exact b8 rfl h0 rfl
  ·rw[if_neg h2]
   refine d6 rfl rfl (fun _ _=>rfl) (Nat.le_of_ble_eq_true rfl) (g9 w) rfl fun C hC h0=>?_
   simp (disch:=first|exact bd (by with_unfolding_all rfl)|fail) only[WA,Nat.reduceEqDiff,Nat.reduceLT,↓reduceIte,reduceCtorEq,c10]
   refine a6 (by rw[hC];exact ha.flat rfl rfl) ?_
   simp (disch:=first|exact bd (by with_unfolding_all rfl)|fail) only[WA,Nat.reduceEqDiff,Nat.reduceLT,↓reduceIte,reduceCtorEq]
   refine a6 (by rw[hC];exact hw.flat rfl rfl) ?_
   simp (disch:=first|omega|exact bd (by with_unfolding_all rfl)|fail) only[WA,Nat.reduceEqDiff,Nat.reduceLT,↓reduceIte,hsz]
   all_goals try (exfalso;omega)
   exact b8 rfl h0 rfl
 ·rw[if_neg h0]
  generalize M5 L=e at*
  refine d6 rfl rfl (fun _ _=>rfl) (Nat.le_of_ble_eq_true rfl) (g9 w) rfl fun C hC h0=>?_
  simp (disch:=first|exact bd (by with_unfolding_all rfl)|fail) only[WA,Nat.reduceEqDiff,Nat.reduceLT,↓reduceIte,reduceCtorEq,c10]
  refine a6 (by rw[hC];exact ha.flat rfl rfl) ?_
  simp (disch:=first|omega|exact bd (by with_unfolding_all rfl)|fail) only[WA,Nat.reduceEqDiff,Nat.reduceLT,↓reduceIte,reduceCtorEq]
  all_goals try (exfalso;omega)
  exact b8 rfl h0 rfl
theorem aT5 (x:o9) (hk:x.kind<256):m7 (EN w (n+1)) 53 [nF x] (.sc (.int .i64 (if C9 x=true then 0 else 8))) ⟨[],0,0⟩:=by
 have go:∀ e:Int,(G4 x∧e=0)∨(¬ G4 x∧e=8)→m7 (EN w (n+1)) 53 [nF x] (.sc (.int .i64 e)) ⟨[],0,0⟩:=by
  obtain ⟨k,p,a,b⟩:=x
  unfold G4
  simp only at hk ⊢
  rcases (by omega:k=1∨k=2∨k=3∨k=4∨k=5∨k=6∨k=7∨k=8∨k=9∨k=10∨k=0∨10<k) with rfl|rfl|rfl|rfl|rfl|rfl|rfl|rfl|rfl|rfl|rfl|h10
  all_goals
   rintro e (⟨he,rfl⟩|⟨he,rfl⟩)
  all_goals
   cases p
  all_goals
   simp (config:={decide:=true}) only[reduceCtorEq,false_and,and_false,false_or,or_false,true_or,or_true,true_and,and_true,not_true_eq_false,not_false_eq_true] at he
  all_goals
   refine d6 rfl rfl (fun _ _=>rfl) (Nat.le_of_ble_eq_true rfl) (g9 w) rfl fun C hC h0=>?_
   repeat' (first|(simp (disch:=first|omega|exact bd (by with_unfolding_all rfl)|fail) only[WA,Nat.reduceEqDiff,Nat.reduceLT,↓reduceIte,reduceCtorEq,c53])|(apply y8<;>intro _))
  all_goals try (exfalso;omega)
  all_goals exact b8 rfl h0 rfl
 refine go _ ?_
 by_cases h:G4 x
 ·exact .inl ⟨h,by rw[if_pos (D4.2 h)]⟩
 ·exact .inr ⟨h,by rw[if_neg fun hh=>h (D4.1 hh)]⟩
theorem bG0 (x:o9) (hx:G4 x):m7 (EN w (n+1)) 75 [nF x] (.sc (.int .i64 (P2 x))) ⟨[],0,0⟩∧m7 (EN w (n+1)) 76 [nF x] (.sc (.int .i64 (P1 x))) ⟨[],0,0⟩:=by
 have hb:=hx.bounds
 obtain ⟨k,p,a,b⟩:=x
 simp only at hb
 clear hx
 constructor
 all_goals
  rcases (by omega:k=1∨k=2∨k=3∨k=4∨k=5∨k=6∨k=7∨k=8∨k=9∨k=10) with rfl|rfl|rfl|rfl|rfl|rfl|rfl|rfl|rfl|rfl
  all_goals
   refine d6 rfl rfl (fun _ _=>rfl) (Nat.le_of_ble_eq_true rfl) (g9 w) rfl fun C hC h0=>?_
   repeat' (first|(simp (disch:=first|omega|exact bd (by with_unfolding_all rfl)|fail) only[WA,Nat.reduceEqDiff,Nat.reduceLT,↓reduceIte,reduceCtorEq,c75,c76]))
   exact b8 rfl h0 rfl
theorem bF9 (s:Nat) (L:List o9) (hL:L.length≤200) (hok:L.all C9=true):m7 (EN w (n+2)) 54 [.sl s L.length (s5 L)] (.tup [.sc (.int .i64 (P8 P2 L)),.sc (.int .i64 (P8 P1 L))]) ⟨[],0,0⟩:=by
 refine d6 rfl rfl (fun _ _=>rfl) (Nat.le_of_ble_eq_true rfl) (g9 w) rfl fun C hC h0=>?_
 have hrn:C.E.rounds=E8:=by rw[hC,l6]
 have hil:=z6 L
 simp (disch:=first|exact bd (by with_unfolding_all rfl)|fail) only[WA,Nat.reduceEqDiff,Nat.reduceLT,↓reduceIte,reduceCtorEq,c54]
 all_goals try (exfalso;omega)
 refine A0 (fun m fr st=>∃ (k:Nat),m=L.length - k∧k≤L.length∧fr= [(0,.sl s L.length (s5 L)),(4,.sc (.int .i64 (P8 P2 (L.take k)))),(5,.sc (.int .i64 (P8 P1 (L.take k)))),(6,.sc (.int .i64 k))]∧st=⟨[],0,0⟩) L.length ?_ ⟨_,_,.refl _ _,0,by omega,Nat.zero_le _,rfl,rfl⟩ ?_
 ·rw[hrn];unfold E8;omega
 rintro m fr st ⟨k,rfl,hk,rfl,rfl⟩
 by_cases hlt:k<L.length
 case neg=>
  have:k=L.length:=by omega
  subst this
  rw[List.take_length]
  simp (disch:=first|omega|exact bd (by with_unfolding_all rfl)|fail) only[WA,Nat.reduceEqDiff,Nat.reduceLT,↓reduceIte,reduceCtorEq,aJ2]
  all_goals try (exfalso;omega)
  exact b8 rfl h0 rfl
 have hag:=L5 L k hlt
 have u1:=kY (f:=P2) hlt
 have u2:=kY (f:=P1) hlt
 have htk:∀ x ∈ L.take k,G4 x:=fun x hx=>D4.1 (List.all_eq_true.1 hok x (List.mem_of_mem_take hx))
 have b1:=kZ (f:=P2) fun x hx=>(X7 (htk x hx)).1
 have b2:=kZ (f:=P1) fun x hx=>(X7 (htk x hx)).2
 have hl2:(L.take k).length≤200:=by rw[List.length_take];omega
 have hx:G4 L[k]! :=D4.1 (List.all_eq_true.1 hok _ (by rw[getElem!_pos _ k hlt];exact List.getElem_mem hlt))
 generalize L[k]! =X at*
 have c1:=X7 hx
 obtain ⟨l1,l2⟩:=bG0 w n X hx
 generalize P8 P2 (L.take k)=U at*
 generalize P8 P1 (L.take k)=M at*
 generalize P2 X=uu at*
 generalize P1 X=mm at*
 obtain ⟨xk,xp,xa,xb⟩:=X
 simp (disch:=first|omega|exact bd (by with_unfolding_all rfl)|fail) only[WA,Nat.reduceEqDiff,Nat.reduceLT,↓reduceIte,reduceCtorEq,aJ2,hag]
 all_goals try (exfalso;omega)
 refine a6 (by rw[hC];exact l1.flat rfl rfl) ?_
 simp (disch:=first|omega|exact bd (by with_unfolding_all rfl)|fail) only[WA,Nat.reduceEqDiff,Nat.reduceLT,↓reduceIte,reduceCtorEq,hag]
 refine a6 (by rw[hC];exact l2.flat rfl rfl) ?_
 simp (disch:=first|omega|exact bd (by with_unfolding_all rfl)|fail) only[WA,Nat.reduceEqDiff,Nat.reduceLT,↓reduceIte,reduceCtorEq]
 all_goals try (exfalso;omega)
 refine ⟨L.length - (k+1),_,_,by omega,.refl _ _,k+1,rfl,by omega,?_,rfl⟩
 rw[u1,u2]
 rfl
theorem bS5 (s:Nat) (L:List o9) (hL:L.length≤140737488351232) (hK:RV L):m7 (EN w (n+3)) 29 [.sl s L.length (s5 L)] (.sc (.int .i64 (M5 L))) ⟨[],0,0⟩:=by
 refine d6 rfl rfl (fun _ _=>rfl) (Nat.le_of_ble_eq_true rfl) (g9 w) rfl fun C hC h0=>?_
 have hrn:C.E.rounds=E8:=by rw[hC,l6]
 have hil:=z6 L
 unfold M5
 by_cases h2:200<L.length
 ·rw[if_pos h2]
  simp (disch:=first|omega|exact bd (by with_unfolding_all rfl)|fail) only[WA,Nat.reduceEqDiff,Nat.reduceLT,↓reduceIte,reduceCtorEq,c29]
  all_goals try (exfalso;omega)
  exact b8 rfl h0 rfl
 rw[if_neg h2]
 simp (disch:=first|omega|exact bd (by with_unfolding_all rfl)|fail) only[WA,Nat.reduceEqDiff,Nat.reduceLT,↓reduceIte,reduceCtorEq,c29]
 all_goals try (exfalso;omega)
 refine A0 (fun m fr st=>∃ (k:Nat),m=L.length - k∧k≤L.length∧(L.take k).all C9=true∧fr= [(0,.sl s L.length (s5 L)),(3,.sc (.int .i64 k))]∧st=⟨[],0,0⟩) L.length ?_ ⟨_,_,.refl _ _,0,by omega,Nat.zero_le _,rfl,rfl,rfl⟩ ?_
 ·rw[hrn];unfold E8;omega
 rintro m fr st ⟨k,rfl,hk,hall,rfl,rfl⟩
 by_cases hlt:k<L.length
 ·have hag:=L5 L k hlt
  have hc:=aT5 w (n+1) L[k]! (hK.at hlt)
  cases hx:C9 L[k]! with
  |true=>
   have hst:=FL hlt hall hx
   rw[hx,if_pos rfl] at hc
   generalize L[k]! =X at*
   obtain ⟨xk,xp,xa,xb⟩:=X
   simp (disch:=first|omega|exact bd (by with_unfolding_all rfl)|fail) only[WA,Nat.reduceEqDiff,Nat.reduceLT,↓reduceIte,reduceCtorEq,KR,hag]
   all_goals try (exfalso;omega)
   refine a6 (by rw[hC];exact hc.flat rfl rfl) ?_
   simp (disch:=first|omega|exact bd (by with_unfolding_all rfl)|fail) only[WA,Nat.reduceEqDiff,Nat.reduceLT,↓reduceIte,reduceCtorEq]
   exact ⟨L.length - (k+1),_,_,by omega,.refl _ _,k+1,rfl,by omega,hst,rfl,rfl⟩
  |false=>
   rw[if_neg (QC hlt hx)]
   rw[hx,if_neg (by decide)] at hc
   generalize L[k]! =X at*
   obtain ⟨xk,xp,xa,xb⟩:=X
   simp (disch:=first|omega|exact bd (by with_unfolding_all rfl)|fail) only[WA,Nat.reduceEqDiff,Nat.reduceLT,↓reduceIte,reduceCtorEq,KR,hag]
   all_goals try (exfalso;omega)
   refine a6 (by rw[hC];exact hc.flat rfl rfl) ?_
   simp (disch:=first|exact bd (by with_unfolding_all rfl)|(simp only[j4]<;>omega)) only[WA,Nat.reduceEqDiff,Nat.reduceLT,Int.reduceEq,↓reduceIte,reduceCtorEq]
   exact b8 rfl h0 rfl
 ·have:k=L.length:=by omega
  subst this
  rw[List.take_length] at hall
  rw[if_pos hall]
  have hs:=bF9 w n s L (by omega) hall
  generalize P8 P2 L=U at*
  generalize P8 P1 L=M at*
  by_cases hm:200<U∨200<M
  ·rw[if_pos hm]
   simp (disch:=first|omega|exact bd (by with_unfolding_all rfl)|fail) only[WA,Nat.reduceEqDiff,Nat.reduceLT,↓reduceIte,reduceCtorEq,KR]
   all_goals try (exfalso;omega)
   refine a6 (by rw[hC];exact hs.flat rfl rfl) ?_
   repeat' (first|(simp (disch:=first|omega|exact bd (by with_unfolding_all rfl)|fail) only[WA,Nat.reduceEqDiff,Nat.reduceLT,↓reduceIte,reduceCtorEq])|(apply y8<;>intro _))
   all_goals try (exfalso;omega)
   all_goals exact b8 rfl h0 rfl
  ·rw[if_neg hm]
   simp (disch:=first|omega|exact bd (by with_unfolding_all rfl)|fail) only[WA,Nat.reduceEqDiff,Nat.reduceLT,↓reduceIte,reduceCtorEq,KR]
   all_goals try (exfalso;omega)
   refine a6 (by rw[hC];exact hs.flat rfl rfl) ?_
   simp (disch:=first|omega|exact bd (by with_unfolding_all rfl)|fail) only[WA,Nat.reduceEqDiff,Nat.reduceLT,↓reduceIte,reduceCtorEq]
   all_goals try (exfalso;omega)
   all_goals exact b8 rfl h0 rfl
theorem uC (s t:Nat) (L M:List o9) (hL:L.length≤140737488351232) (hM:M.length≤140737488351232):m7 (EN w (n+1)) 14 [.sl s L.length (s5 L),.sl t M.length (s5 M)] (.sc (.bool (decide (L=M)))) ⟨[],0,0⟩:=by
 have hil:=z6 L
 have him:=z6 M
 by_cases hlen:L.length=M.length
 case neg=>
  rw[decide_eq_false fun h=>hlen (by rw[h])]
  refine d6 rfl rfl (fun _ _=>rfl) (Nat.le_of_ble_eq_true rfl) (g9 w) rfl fun C hC h0=>?_
  simp (disch:=first|omega|exact bd (by with_unfolding_all rfl)|fail) only[WA,Nat.reduceEqDiff,Nat.reduceLT,↓reduceIte,reduceCtorEq,c14]
  all_goals try (exfalso;omega)
  exact b8 rfl h0 rfl
 refine d6 rfl rfl (fun _ _=>rfl) (Nat.le_of_ble_eq_true rfl) (g9 w) rfl fun C hC h0=>?_
 have hrn:C.E.rounds=E8:=by rw[hC,l6]
 simp (disch:=first|omega|exact bd (by with_unfolding_all rfl)|fail) only[WA,Nat.reduceEqDiff,Nat.reduceLT,↓reduceIte,reduceCtorEq,c14]
 all_goals try (exfalso;omega)
 refine A0 (fun m fr st=>∃ (k:Nat),m=L.length - k∧k≤L.length∧(∀ j,j<k→L[j]! =M[j]!)∧fr= [(0,.sl s L.length (s5 L)),(1,.sl t M.length (s5 M)),(5,.sc (.int .i64 k))]∧st=⟨[],0,0⟩) L.length ?_ ⟨_,_,.refl _ _,0,by omega,Nat.zero_le _,fun j hj=>absurd hj (Nat.not_lt_zero _),rfl,rfl⟩ ?_
 ·rw[hrn];unfold E8;omega
 rintro m fr st ⟨k,rfl,hk,heq,rfl,rfl⟩
 by_cases hlt:k<L.length
 ·have hag:=L5 L k hlt
  have hag2:=L5 M k (by omega)
  by_cases hx:L[k]! =M[k]!
  ·have hnx:∀ j,j<k+1→L[j]! =M[j]! :=fun j hj=>by
    rcases Nat.lt_succ_iff_lt_or_eq.1 hj with h|h
    ·exact heq j h
    ·rw[h];exact hx
   rw[hx] at hag
   generalize M[k]! =X at*
   obtain ⟨xk,xp,xa,xb⟩:=X
   simp (disch:=first|omega|exact bd (by with_unfolding_all rfl)|(simp only[j4]<;>omega)) only[WA,l8,r5,Nat.reduceEqDiff,Nat.reduceLT,↓reduceIte,reduceCtorEq,VK,hag,hag2,↓aX]
   all_goals try (exfalso;omega)
   exact ⟨L.length - (k+1),_,_,by omega,.refl _ _,k+1,rfl,by omega,hnx,rfl,rfl⟩
  ·have hd:decide (L=M)=false:=decide_eq_false fun h=>hx (by rw[h])
   rw[hd]
   have hdd:=decide_eq_false hx
   generalize L[k]! =X at*
   generalize M[k]! =Y at*
   obtain ⟨xk,xp,xa,xb⟩:=X
   obtain ⟨yk,yp,ya,yb⟩:=Y
   simp (disch:=first|omega|exact bd (by with_unfolding_all rfl)|fail) only[WA,l8,r5,Nat.reduceEqDiff,Nat.reduceLT,↓reduceIte,reduceCtorEq,VK,hag,hag2,↓aX,hdd]
   all_goals try (exfalso;omega)
   exact b8 rfl h0 rfl
 ·have hd:decide (L=M)=true:=decide_eq_true (List.ext_getElem hlen fun j h1 h2=>by
   have:=heq j (by omega)
   rwa [getElem!_pos L j h1,getElem!_pos M j h2] at this)
  rw[hd]
  simp (disch:=first|omega|exact bd (by with_unfolding_all rfl)|fail) only[WA,Nat.reduceEqDiff,Nat.reduceLT,↓reduceIte,reduceCtorEq,VK]
  all_goals try (exfalso;omega)
  exact b8 rfl h0 rfl
def TD (l:Nat):Bool:=decide (60<l∧l≤200∨300<l)
theorem aU3 (s:Nat) (L:List o9) (hL:L.length≤140737488351232):m7 (EN w (n+1)) 9 [.sl s L.length (s5 L)] (.sc (.bool (TD L.length))) ⟨[],0,0⟩:=by
 unfold TD
 have go:∀ b:Bool,((60<L.length∧L.length≤200∨300<L.length)∧b=true)∨(¬ (60<L.length∧L.length≤200∨300<L.length)∧b=false)→m7 (EN w (n+1)) 9 [.sl s L.length (s5 L)] (.sc (.bool b)) ⟨[],0,0⟩:=by
  rintro b (⟨h,rfl⟩|⟨h,rfl⟩)
  all_goals
   refine d6 rfl rfl (fun _ _=>rfl) (Nat.le_of_ble_eq_true rfl) (g9 w) rfl fun C hC h0=>?_
   repeat' (first|(simp (disch:=first|omega|exact bd (by with_unfolding_all rfl)|fail) only[WA,Nat.reduceEqDiff,Nat.reduceLT,↓reduceIte,reduceCtorEq,c9])|(apply y8<;>intro _))
   all_goals try (exfalso;omega)
   all_goals exact b8 rfl h0 rfl
 by_cases h:60<L.length∧L.length≤200∨300<L.length
 ·exact go _ (.inl ⟨h,decide_eq_true h⟩)
 ·exact go _ (.inr ⟨h,decide_eq_false h⟩)
end
set_option maxHeartbeats 2000000
theorem LK (x:Nat):Lib.decDigits x=(if x / 10=0 then [] else Lib.decDigits (x / 10))++ [UInt8.ofNat (48+x % 10)]:=by
 by_cases h:x<10
 ·rw[Lib.decDigits,dif_pos h,if_pos (by omega),show x % 10=x by omega];rfl
 ·rw[Lib.decDigits,dif_neg h,if_neg (by omega)]
theorem bC7 {b:UInt8} (h:B2 b=true):Lib.digitVal b=some (b.toNat - 48):=by
 simp only[B2,Bool.and_eq_true,decide_eq_true_eq] at h
 unfold Lib.digitVal
 rw[if_pos h]
section
variable (w:World) (n:Nat)
theorem aA2 (x:Nat) (hx:x≤1000000000000):m7 (EN w (n+1)) 64 [.sc (.int .i64 x)] (m9 (Lib.decDigits x)) ⟨[],0,0⟩:=by
 refine d6 rfl rfl (fun _ _=>rfl) (Nat.le_of_ble_eq_true rfl) (g9 w) rfl fun C hC h0=>?_
 have hs1:∀ (c:UInt8) (s:List UInt8),s.length≤2000000000000→(ByteArray.mk [c].toArray).size+(ByteArray.mk s.toArray).size<9223372036854775807:=fun c s h=>by
  show 1+s.toArray.size<_
  simp;omega
 have e1:(x:Int) % 10=((x % 10:Nat):Int):=by omega
 have e2:(x:Int) / 10=((x / 10:Nat):Int):=by omega
 have e4:(48:Int)+((x % 10:Nat):Int)=((48+x % 10:Nat):Int):=by omega
 have e3:=GL (48+x % 10) (by omega)
 have e5:=VH (o:=0) (t:=5) (g:=false) (z:=false) (H:= [(0,.row 5 1 false false [.sc (.int .u8 ((48+x % 10:Nat):Int))])]) (48+x % 10) (by omega) rfl 1
 simp (disch:=first|omega|exact bd (by with_unfolding_all rfl)|fail) only[WA,Nat.reduceEqDiff,Nat.reduceLT,↓reduceIte,reduceCtorEq,c64,e1,e2,e4,e3,e5]
 refine A0 (fun m fr st=>∃ (k:Nat) (s:List UInt8),m=k∧k≤x∧Lib.decDigits x=(if k=0 then [] else Lib.decDigits k)++s∧s.length+k≤x+1∧fr= [(0,.sc (.int .i64 k)),(3,m9 s)]∧st=⟨[],0,0⟩) (x / 10) ?_ ⟨_,_,u6 [] 0 h0 rfl rfl rfl rfl,x / 10,[UInt8.ofNat (48+x % 10)],?_⟩ ?_
 ·rw[hC,l6];unfold E8;omega
 ·exact ⟨rfl,by omega,LK x,by simp;omega,rfl,rfl⟩
 rintro k fr st ⟨_,s,rfl,hk,hd,hsl,rfl,rfl⟩
 by_cases hlt:0<k
 ·rw[if_neg (by omega),LK k] at hd
  have e1:(k:Int) % 10=((k % 10:Nat):Int):=by omega
  have e2:(k:Int) / 10=((k / 10:Nat):Int):=by omega
  have e4:(48:Int)+((k % 10:Nat):Int)=((48+k % 10:Nat):Int):=by omega
  have e3:=GL (48+k % 10) (by omega)
  have e5:=VH (o:=0) (t:=5) (g:=false) (z:=false) (H:= [(0,.row 5 1 false false [.sc (.int .u8 ((48+k % 10:Nat):Int))])]) (48+k % 10) (by omega) rfl 1
  simp (disch:=first|omega|exact bd (by with_unfolding_all rfl)|fail) only[WA,Nat.reduceEqDiff,Nat.reduceLT,↓reduceIte,reduceCtorEq,aJ3,e1,e2,e4,e3,e5,aI5 _ _ (hs1 (UInt8.ofNat (48+k % 10)) s (by omega)),BT]
  all_goals try (exfalso;omega)
  refine ⟨_,_,_,?_,u6 [] 0 h0 rfl rfl rfl rfl,k / 10,UInt8.ofNat (48+k % 10)::s,rfl,by omega,?_,by simp;omega,?_,?_⟩
  ·omega
  ·rw[hd];simp
  ·simp[yH,aB]
  ·simp[BG]
 ·have:k=0:=by omega
  subst this
  rw[hd]
  simp (disch:=first|omega|exact bd (by with_unfolding_all rfl)|fail) only[WA,Nat.reduceEqDiff,Nat.reduceLT,↓reduceIte,reduceCtorEq,aJ3]
  all_goals try (exfalso;omega)
  exact b8 rfl h0 rfl
def lP (r:Option Int):V:= .tup [.sc (.int .i64 (r.getD 0)),.sc (.bool r.isSome)]
theorem tZ (l:List UInt8) (hl:l.length≤1000000):m7 (EN w (n+1)) 85 [m9 l] (lP (V7 l)) ⟨[],0,0⟩:=by
 refine d6 rfl rfl (fun _ _=>rfl) (Nat.le_of_ble_eq_true rfl) (g9 w) (by cases V7 l<;>rfl) fun C hC h0=>?_
 have hsz:=p6 l
 have no:¬ (l ≠ []∧l.length≤4∧(1<l.length→l[0]! ≠ 48)∧l.all B2=true)→V7 l=none:=fun h=>by unfold V7;rw[if_neg h]
 by_cases h1:l.length=0∨4<l.length
 ·rw[no (fun h=>by
   have:=List.length_pos_iff.2 h.1
   omega)]
  repeat' (first|(simp (disch:=first|omega|exact bd (by with_unfolding_all rfl)|fail) only[WA,Nat.reduceEqDiff,Nat.reduceLT,↓reduceIte,reduceCtorEq,c85,lP])|(apply y8<;>intro _))
  all_goals try (exfalso;omega)
  all_goals exact b8 rfl h0 rfl
 have hb0:=U1 l .i64 (0:Nat) (by omega) (by omega)
 have hx48:((l[0]!.toNat:Nat):Int)=48↔l[0]! =48:=by
  constructor
  ·intro h;apply UInt8.toNat_inj.1;rw[show (48:UInt8).toNat=48 by rfl];omega
  ·intro h;rw[h];rfl
 rw[Int.toNat_natCast] at hb0
 simp only[Int.natCast_zero] at hb0
 by_cases h2:1<l.length∧l[0]! =48
 ·rw[no (fun h=>h.2.2.1 h2.1 h2.2)]
  have h3:=hx48.2 h2.2
  generalize l[0]!.toNat=B at*
  simp (disch:=first|omega|exact bd (by with_unfolding_all rfl)|fail) only[WA,Nat.reduceEqDiff,Nat.reduceLT,↓reduceIte,reduceCtorEq,c85,lP,hb0]
  all_goals try (exfalso;omega)
  all_goals exact b8 rfl h0 rfl
 have h3:1<l.length→¬ ((l[0]!.toNat:Nat):Int)=48:=fun h hh=>h2 ⟨h,hx48.1 hh⟩
 have h3:¬ 1<l.length∨¬ ((l[0]!.toNat:Nat):Int)=48:=by
  by_cases h:1<l.length
  ·exact .inr (h3 h)
  ·exact .inl h
 have hR:l.all B2=true→V7 l=some (((Lib.decFrom 0 l).getD 0:Nat):Int):=fun h=>by
  unfold V7
  rw[if_pos ⟨List.length_pos_iff.1 (by omega),by omega,fun h5=>fun h6=>h2 ⟨h5,h6⟩,h⟩]
 generalize l[0]!.toNat=B at hb0 h3
 repeat' (first|(simp (disch:=first|omega|exact bd (by with_unfolding_all rfl)|fail) only[WA,Nat.reduceEqDiff,Nat.reduceLT,↓reduceIte,reduceCtorEq,c85,hb0])|(apply y8<;>intro _))
 all_goals try (exfalso;omega)
 all_goals
  refine A0 (fun m fr st=>∃ k u:Nat,m=l.length - k∧k≤l.length∧u<10 ^ k∧(∀ j,j<k→B2 l[j]! =true)∧Lib.decFrom 0 (l.take k)=some u∧fr= [(0,m9 l),(4,.sc (.int .i64 u)),(5,.sc (.int .i64 k))]∧st=⟨[],0,0⟩) l.length ?_ ⟨_,_,.refl _ _,0,0,?_⟩ ?_
  ·rw[hC,l6];unfold E8;omega
  ·exact ⟨by omega,by omega,by decide,(fun j hj=>absurd hj (Nat.not_lt_zero _)),rfl,rfl,rfl⟩
  rintro m fr st ⟨k,u,rfl,hk,hu,hd,hf,rfl,rfl⟩
  have hu9:u<10000:=Nat.lt_of_lt_of_le hu (by have:=Nat.pow_le_pow_right (show 1≤10 by omega) (show k≤4 by omega);simpa using this)
  by_cases hlt:k<l.length
  ·have hb:=U1 l .i64 k (by omega) (by omega)
   rw[Int.toNat_natCast] at hb
   by_cases hdg:B2 l[k]! =true
   ·have hdg1:=hdg
    have hv:=bC7 hdg
    have hstep:=Lib.decFrom_take l k 0 u l[k]! _ hf (by rw[List.getElem?_eq_getElem hlt,getElem!_pos l k hlt]) hv
    have hnx:=BB hd hdg
    simp only[B2,Bool.and_eq_true,decide_eq_true_eq] at hdg1
    generalize l[k]!.toNat=b at hb hstep hdg1
    have e1:IntKind.u8.wrap ((b:Int) - 48)=((b - 48:Nat):Int):=by rw[uG _ (by omega) (by omega)];omega
    repeat' (first|(simp (disch:=first|omega|exact bd (by with_unfolding_all rfl)|fail) only[WA,Nat.reduceEqDiff,Nat.reduceLT,↓reduceIte,reduceCtorEq,VN,hb,e1]))
    all_goals try (exfalso;omega)
    refine ⟨_,_,_,by omega,.refl _ _,k+1,u*10+(b - 48),rfl,hlt,?_,hnx,hstep,?_,rfl⟩
    ·rw[Nat.pow_succ];omega
    ·have:(10:Int)*u+((b - 48:Nat):Int)=((u*10+(b - 48):Nat):Int):=by omega
     rw[this];simp
   ·have e:V7 l=none:=no fun h=>hdg (List.all_eq_true.1 h.2.2.2 l[k]! (by rw[getElem!_pos l k hlt];exact List.getElem_mem hlt))
    rw[e]
    have hdg2:¬ (48≤l[k]!.toNat∧l[k]!.toNat≤57):=fun h=>hdg (by simp only[B2,Bool.and_eq_true,decide_eq_true_eq];exact h)
    generalize l[k]!.toNat=b at hb hdg2
    repeat' (first|(simp (disch:=first|omega|exact bd (by with_unfolding_all rfl)|fail) only[WA,Nat.reduceEqDiff,Nat.reduceLT,↓reduceIte,reduceCtorEq,VN,hb,lP])|(apply y8<;>intro _))
    all_goals try (exfalso;omega)
    all_goals exact b8 rfl h0 rfl
  ·have:k=l.length:=by omega
   subst this
   rw[List.take_length] at hf
   have hall:l.all B2=true:=List.all_eq_true.2 fun c hc=>by
    obtain ⟨i,hi,rfl⟩:=List.getElem_of_mem hc
    have:=hd i hi
    rw[getElem!_pos l i hi] at this
    exact this
   rw[hR hall,hf]
   repeat' (first|(simp (disch:=first|omega|exact bd (by with_unfolding_all rfl)|fail) only[WA,Nat.reduceEqDiff,Nat.reduceLT,↓reduceIte,reduceCtorEq,VN,lP,Option.getD]))
   exact b8 rfl h0 rfl
theorem bS6 (l:List UInt8) (c:UInt8) (hl:l.length≤1000000):m7 (EN w (n+1)) 84 [m9 l,.sc (.int .u8 c.toNat)] (.gr 2 0 (n5 c l).length) ⟨[(0,.gro 9 1 false ((n5 c l).map sD))],1,0⟩:=by
 refine y6 rfl rfl (fun _ _=>rfl) (Nat.le_of_ble_eq_true rfl) (g9 w) (PH (NR rfl)) rfl fun C hC h0=>?_
 have hrn:C.E.rounds=E8:=by rw[hC,l6]
 have hsz:=p6 l
 simp (disch:=first|exact bd (by with_unfolding_all rfl)|fail) only[WA,Nat.reduceEqDiff,Nat.reduceLT,↓reduceIte,reduceCtorEq,c84]
 refine A0 (fun m fr st=>∃ (dn:List (List UInt8)) (p x r:List UInt8),m=r.length+1∧l=p++(x++r)∧c ∉ x∧n5 c l=dn++n5 c (x++r)∧fr= [(0,m9 l),(1,.sc (.int .u8 c.toNat)),(5,.gr 2 0 dn.length),(6,.sc (.int .i64 p.length)),(7,.sc (.int .i64 ((p.length+x.length:Nat):Int)))]∧st=⟨[(0,.gro 9 1 false (dn.map sD))],1,0⟩∨(m=0∧dn=n5 c l∧fr= [(0,m9 l),(1,.sc (.int .u8 c.toNat)),(5,.gr 2 0 dn.length),(6,.sc (.int .i64 ((l.length:Int)+1))),(7,.sc (.int .i64 ((l.length:Int)+1)))]∧st=⟨[(0,.gro 9 1 false (dn.map sD))],1,0⟩)) (l.length+1) ?_ ⟨_,_,O7 5 9 1 rfl,[],[],[],l,.inl ⟨rfl,rfl,by simp,rfl,rfl,rfl⟩⟩ ?_
 ·rw[hrn];unfold E8;omega
 rintro m fr st ⟨dn,p,x,r,⟨rfl,hlp,hx,hw,rfl,rfl⟩|⟨rfl,rfl,rfl,rfl⟩⟩
 case inr=>
  simp (disch:=first|omega|exact bd (by with_unfolding_all rfl)|fail) only[WA,Nat.reduceEqDiff,Nat.reduceLT,↓reduceIte,reduceCtorEq,KU]
  all_goals try (exfalso;omega)
  exact .refl _ _
 have hll:l.length=p.length+(x.length+r.length):=by rw[hlp];simp
 have hwl:=(words_len (c:=c) l.length (s:=l) (Nat.le_refl _)).1
 have hdl:dn.length≤l.length:=by
  have h1:=congrArg List.length hw
  have h2:=List.length_pos_iff.2 (eF c (x++r))
  rw[List.length_append] at h1
  omega
 have hdm:(dn.map sD).length=dn.length:=by rw[List.length_map]
 have e1:=aE2 l .i64 .i64 (p.length:Int) ((p.length+x.length:Nat):Int) (by omega) (by omega) (by omega)
 have e2:List.take (p.length+x.length - p.length) (List.drop p.length l)=x:=by
  rw[hlp,List.drop_left,Nat.add_sub_cancel_left,List.take_left]
 simp only[Int.toNat_natCast] at e1
 rw[e2] at e1
 cases r with
 |nil=>
  have hr0:([]:List UInt8).length=0:=rfl
  rw[List.append_nil,N7 hx] at hw
  have hpx:((p.length+x.length:Nat):Int)=(l.length:Int):=by omega
  have hxD:D.sc (Value.string ⟨x.toArray⟩)=sD x:=rfl
  simp (disch:=first|omega|exact bd (by with_unfolding_all rfl)|(simp only[j4]<;>omega)) only[WA,Nat.reduceEqDiff,Nat.reduceLT,Nat.reduceAdd,↓reduceIte,reduceCtorEq,KU,e1,aV0]
  all_goals try (exfalso;omega)
  rw[hpx]
  refine ⟨_,_,_,by omega,u6 [(2,0)] 1 h0 rfl rfl rfl rfl,dn++ [x],[],[],[],.inr ⟨rfl,hw.symm,?_,?_⟩⟩
  ·rw[List.length_append];rfl
  ·rw[List.map_append];rfl
 |cons b r=>
  have hr0:(b::r).length=r.length+1:=rfl
  have hb:=U1 l .i64 ((p.length+x.length:Nat):Int) (by omega) (by omega)
  have hg:l[p.length+x.length]! =b:=by
   rw[hlp,← List.append_assoc,getElem!_pos _ _ (by simp),List.getElem_append_right (by simp)]
   simp
  rw[Int.toNat_natCast,hg] at hb
  by_cases hbc:b=c
  ·subst hbc
   rw[G3 r hx] at hw
   simp (disch:=first|omega|exact bd (by with_unfolding_all rfl)|(simp only[j4]<;>omega)) only[WA,Nat.reduceEqDiff,Nat.reduceLT,Nat.reduceAdd,↓reduceIte,reduceCtorEq,KU,e1,hb,aV0]
   all_goals try (exfalso;omega)
   refine ⟨_,_,_,?_,u6 [(2,0)] 1 h0 rfl rfl rfl rfl,dn++ [x],p++(x++ [b]),[],r,.inl ⟨rfl,by rw[hlp];simp,by simp,by rw[hw];simp,?_,?_⟩⟩
   ·omega
   ·have hpx:(p++(x++ [b])).length=p.length+x.length+1:=by simp;omega
    rw[hpx,List.length_append];rfl
   ·rw[List.map_append];rfl
  ·have hne:¬ ((b.toNat:Nat):Int)=((c.toNat:Nat):Int):=fun h=>hbc (UInt8.toNat_inj.1 (by omega))
   simp (disch:=first|omega|exact bd (by with_unfolding_all rfl)|fail) only[WA,Nat.reduceEqDiff,Nat.reduceLT,↓reduceIte,reduceCtorEq,KU,e1,hb,hne,aV0]
   all_goals try (exfalso;omega)
   refine ⟨_,_,_,?_,.refl _ _,dn,p,x++ [b],r,.inl ⟨rfl,by rw[hlp];simp,?_,by rw[hw];simp,?_,rfl⟩⟩
   ·omega
   ·rw[List.mem_append,List.mem_singleton];rintro (h|h);exact hx h;exact hbc h.symm
   ·rw[List.length_append];rfl
theorem aK4 (l:List UInt8) (c:UInt8) (hl:l.length≤1000000):m7 (EN w (n+1)) 84 [m9 l,.sc (.int .u8 c.toNat)] (.sl 2 (n5 c l).length ((n5 c l).map sD)) ⟨[],0,0⟩:=by
 refine (bS6 w n l c hl).fin ?_ rfl rfl rfl (fun h=>by cases h)
 exact aV8 rfl (by simp)
end
set_option maxHeartbeats 400000
section
variable (w:World) (n:Nat)
theorem UF (z:Int) (h0:0≤z) (h1:z≤1000000):m7 (EN w (n+1)) 64 [.sc (.int .i64 z)] (m9 (Lib.itoa z)) ⟨[],0,0⟩:=by
 obtain ⟨u,rfl⟩:=Int.eq_ofNat_of_zero_le h0
 have:=aA2 w n u (by omega)
 rwa [← Lib.itoa_nonneg] at this
end
section
variable (w:World) (n:Nat)
end
end Go.Proofs.YtimmmnanllcfoaaDoor
namespace Go.Itp
set_option linter.unusedVariables false
set_option linter.unusedSimpArgs false
set_option maxRecDepth 10000
def JB:List UInt8:= [114,111,119,32]
def xW:List UInt8:= [32,40]
def HP:List UInt8:= [41,58,32]
def lD (b:Bool) (n:Int) (c s:List UInt8):Option (Bool × List o9 × Int):=match x8 (W0 b++HP) c with
 |none=>none
 |some t=>if (F5 t).2=0∧F6 b (F5 t).1 n=(s,0) then some (b,(F5 t).1,n) else none
def BD (s:List UInt8):Option (Bool × List o9 × Int):=match B8 [JB,xW] s with
 |none=>none
 |some (m,r)=>match J4 [46] r with
  |none=>none
  |some c=>match lD false (m.headD 0) c s with
   |some x=>some x
   |none=>lD true (m.headD 0) c s
theorem FQ {b:Bool} {n:Int} {c s:List UInt8} {x:Bool × List o9 × Int} (h:lD b n c s=some x):gJ s=some x:=by
 unfold lD at h
 split at h
 ·cases h
 ·split at h
  ·rename_i hh
   cases h
   exact yE hh.2
  ·cases h
theorem aD2 {s:List UInt8} {x:Bool × List o9 × Int} (h:BD s=some x):gJ s=some x:=by
 unfold BD at h
 split at h
 ·cases h
 split at h
 ·cases h
 split at h
 ·rename_i he
  cases h
  exact FQ he
 ·exact FQ h
theorem rG {L:List o9} {t:List UInt8} (h:y7 L=(t,0)):F5 t=(L,0):=by
 unfold F5
 rw[mX h]
theorem aC9 {t:List UInt8} (h:(F5 t).2=0):y7 (F5 t).1=(t,0):=by
 unfold F5 at h ⊢
 cases e:Y4 t with
 |none=>rw[e] at h;exact absurd h (by decide)
 |some L=>exact pD e
theorem bF5 {b:Bool} {L:List o9} {n:Int} {s:List UInt8} (h:F6 b L n=(s,0)):BD s=some (b,L,n):=by
 obtain ⟨hn,hc,hr,_⟩:=pH (by rw[h]:(F6 b L n).2=0)
 have hs:s=aL b n++A6 L++ [46]:=by rw[h] at hr;exact congrArg Prod.fst hr
 have e:s=JB++(Lib.itoa n++(xW++((W0 b++HP++A6 L)++ [46]))):=by
  rw[hs];simp[aL,aE0,JB,lG,xW,HP]
 have hnd:∀ r,Q6 (xW++r):=fun r c hc=>by
  simp only[xW,List.cons_append,List.head?_cons,Option.some.injEq] at hc
  subst hc;decide
 have hm:B8 [JB,xW] s=some ([n],(W0 b++HP++A6 L)++ [46]):=by
  rw[e]
  unfold B8
  simp only[H7]
  unfold S3
  rw[W4 (by omega) (by omega) (hnd _),if_neg oL,cA (by omega) (by omega) (hnd _),H7]
  simp only[S3,eB (show 0≤n by omega),List.nil_append]
 have ht:lD b n (W0 b++HP++A6 L) s=some (b,L,n):=by
  unfold lD
  rw[H7]
  simp only[rG hc,h,and_self,if_true]
 unfold BD
 rw[hm]
 simp only[vM,List.headD_cons]
 cases b with
 |false=>rw[ht]
 |true=>
  have h0:lD false n (W0 true++HP++A6 L) s=none:=by
   unfold lD
   have:x8 (W0 false++HP) (W0 true++HP++A6 L)=none:=by
    unfold x8
    rw[if_neg]
    rintro ⟨_,h2⟩
    simp[W0,HP] at h2
   rw[this]
  rw[h0,ht]
theorem bF4 (s:List UInt8):BD s=gJ s:=by
 cases h:gJ s with
 |some x=>
  obtain ⟨b,L,n⟩:=x
  exact bF5 (yF h)
 |none=>
  cases hp:BD s with
  |none=>rfl
  |some x=>rw[aD2 hp] at h;cases h
def oW:List UInt8:= [115,116,97,114,116,32,119,105,116,104,32]
def gH:List UInt8:= [32,115,116,105,116,99,104,101,115,46]
noncomputable def lT:Int→List (List UInt8)→List (Bool × List o9)→Option (List (Bool × List o9))
 |_,[],acc=>some acc
 |n,x::xs,acc=>match gJ x with
  |none=>none
  |some (b,L,k)=>if k=n then lT (n+1) xs (acc++ [(b,L)]) else none
noncomputable def lR (s:List UInt8):Option GM:=if 60000<s.length then none else match B8 [oW,gH] ((n5 10 s).headD []) with
 |none=>none
 |some (m,r)=>if r= []∧(n5 10 s).length≤102 then (match lT 1 (n5 10 s).tail.dropLast [] with
  |none=>none
  |some R=>if B0 (m.headD 0,R)=(s,0) then some (m.headD 0,R) else none) else none
theorem UA {s:List UInt8} {c:GM} (h:lR s=some c):tG s=some c:=by
 unfold lR at h
 split at h
 ·cases h
 split at h
 ·cases h
 split at h
 ·split at h
  ·cases h
  ·split at h
   ·rename_i hc
    cases h
    exact PA hc
   ·cases h
 ·cases h
theorem tH:∀ (l:List (Bool × List o9)) (n:Int) (acc:List (Bool × List o9)),(A5 n l).2=0→lT n (W6 n l) acc=some (acc++l)
 | [],n,acc,_=>by rw[W6,lT,List.append_nil]
 |r::l,n,acc,h=>by
  unfold A5 at h
  by_cases h1:(F6 r.1 r.2 n).2=0
  ·rw[if_pos h1] at h
   by_cases h2:(A5 (n+1) l).2=0
   ·have h3:F6 r.1 r.2 n=((F6 r.1 r.2 n).1,0):=by rw[← h1]
    rw[W6,lT,yE h3]
    simp only[if_true]
    rw[tH l (n+1) _ h2,List.append_assoc]
    rfl
   ·rw[if_neg h2] at h;exact absurd h h2
  ·rw[if_neg h1] at h;exact absurd h h1
theorem aR7 {s:List UInt8} {c:GM} (h:B0 c=(s,0)):lR s=some c:=by
 obtain ⟨h1,h2,h3,h4⟩:=kC (by rw[h]:(B0 c).2=0)
 obtain ⟨c1,c2,c3⟩:=dD h1
 have hw:=eQ h
 have hlen:s.length≤60000:=by
  rw[h] at h4
  rw[show s=_ from congrArg Prod.fst h4]
  exact h3
 have hnd:Q6 gH:=fun d hd=>by
  simp only[gH,List.head?_cons,Option.some.injEq] at hd
  subst hd;decide
 have hm:B8 [oW,gH] (I4 c.1)=some ([c.1],[]):=by
  have e:I4 c.1=oW++(Lib.itoa c.1++(gH++ [])):=by simp[I4,oW,gH]
  rw[e]
  unfold B8
  simp only[H7]
  unfold S3
  rw[List.append_nil,W4 (by omega) (by omega) hnd,if_neg oL,cA (by omega) (by omega) hnd]
  have:=H7 gH []
  rw[List.append_nil] at this
  rw[this]
  simp only[S3,eB c2.1,List.nil_append]
 unfold lR
 rw[if_neg (by omega),hw]
 simp only[List.headD_cons,hm,List.tail_cons,List.dropLast_concat]
 rw[if_pos ⟨trivial,by simp only[List.length_cons,List.length_append,List.length_nil,bU];omega⟩,tH _ _ _ h2]
 simp only[List.nil_append]
 exact if_pos h
theorem aR6 (s:List UInt8):lR s=tG s:=by
 cases h:tG s with
 |some c=>exact aR7 (UG h)
 |none=>
  cases hp:lR s with
  |none=>rfl
  |some x=>rw[UA hp] at h;cases h
def zO:List (UInt8 × Nat):= [(102,3),(108,4),(109,5),(120,6),(121,7),(115,8),(111,10)]
def sV:List (UInt8 × Nat)→UInt8→Nat
 | [],_=>0
 |(a,k)::r,c=>if a=c then k else sV r c
def dN (c:UInt8):Nat:=sV zO c
theorem NK (c:UInt8):dN c≤10:=by
 unfold dN zO
 simp only[sV]
 repeat' split
 all_goals omega
def fK (p:Bool):List UInt8:=if p=true then [112] else [107]
def DY (x:o9):List UInt8:=match x.kind with
 |1=>fK x.purl
 |2=> [121,111]
 |3=>fK x.purl++102::Lib.itoa x.a
 |4=>fK x.purl++108::Lib.itoa x.a
 |5=>fK x.purl++109::Lib.itoa x.a
 |6=>fK x.purl++120::(Lib.itoa x.a++47::Lib.itoa x.b)
 |7=>fK x.purl++121::(Lib.itoa x.a++47::Lib.itoa x.b)
 |8=>fK x.purl++ [115]
 |9=>111::110::Lib.itoa x.a
 |_=>fK x.purl++111::Lib.itoa x.a
def W2 (x:o9) (l:List o9):Nat:=if x.kind=1 then (l.takeWhile fun y=>decide (y=x)).length else 0
theorem PN (x:o9) (l:List o9):W2 x l≤l.length:=by
 unfold W2
 split
 ·exact (List.takeWhile_sublist _).length_le
 ·exact Nat.zero_le _
def wrF:Nat→List o9→List UInt8
 |0,_=> []
 |_+1,[]=> []
 |f+1,x::l=>32::(DY x++((if 0<W2 x l then Lib.itoa (W2 x l+1:Nat) else [])++wrF f (l.drop (W2 x l))))
def eG (l:List o9):List UInt8:=(wrF l.length l).drop 1
def mA (w:List UInt8):List o9 × Bool:=
 if w= [121,111] then ([⟨2,false,0,0⟩],true)
 else if 2<w.length∧w.take 2= [111,110] then ([⟨9,false,(V7 (w.drop 2)).getD 0,0⟩],(V7 (w.drop 2)).isSome)
 else if w.length=0∨(w[0]! ≠ 107∧w[0]! ≠ 112) then ([],false)
 else if w.length=1 then ([⟨1,decide (w[0]! =112),0,0⟩],true)
 else match V7 (w.drop 1) with
  |some n=>(List.replicate (min n.toNat 300) ⟨1,decide (w[0]! =112),0,0⟩,decide (1<n))
  |none=>if dN w[1]! =8 then ([⟨8,decide (w[0]! =112),0,0⟩],decide (w.length=2))
   else if dN w[1]! =6∨dN w[1]! =7 then (if (n5 47 (w.drop 2)).length=2 then ([⟨dN w[1]!,decide (w[0]! =112),(V7 (n5 47 (w.drop 2))[0]!).getD 0,(V7 (n5 47 (w.drop 2))[1]!).getD 0⟩],(V7 (n5 47 (w.drop 2))[1]!).isSome && (V7 (n5 47 (w.drop 2))[0]!).isSome)
    else ([⟨dN w[1]!,decide (w[0]! =112),(V7 (n5 47 (w.drop 2))[0]!).getD 0,0⟩],false))
   else ([⟨dN w[1]!,decide (w[0]! =112),(V7 (n5 47 (w.drop 2))[0]!).getD 0,0⟩],decide (dN w[1]! ≠ 0∧(n5 47 (w.drop 2)).length=1) && (V7 (n5 47 (w.drop 2))[0]!).isSome)
theorem aH2 (w:List UInt8):(mA w).1.length≤300:=by
 unfold mA
 repeat' split
 all_goals simp only[List.length_cons,List.length_nil,List.length_replicate]
 all_goals omega
theorem VB (w:List UInt8):∀ x ∈ (mA w).1,x.kind<256:=by
 have hk:=NK w[1]!
 have h1:∀ (k:Nat) (p:Bool) (a b:Int),k≤10→∀ x ∈ ([⟨k,p,a,b⟩]:List o9),x.kind<256:=fun k p a b h x hx=>by
  rw[List.mem_singleton.1 hx]
  exact Nat.lt_of_le_of_lt h (by decide)
 unfold mA
 repeat' split
 all_goals first
  |exact h1 _ _ _ _ hk
  |exact h1 _ _ _ _ (by decide)
  |(intro x hx;cases hx;done)
  |(intro x hx;rw[List.eq_of_mem_replicate hx];exact Nat.lt_of_le_of_lt (Nat.le_refl 1) (by decide))
def mW:List (List UInt8)→List o9→Option (List o9)
 | [],acc=>some acc
 |w::ws,acc=>if (mA w).2=true then (if 200<(acc++(mA w).1).length then none else mW ws (acc++(mA w).1)) else none
def E2 (s:List UInt8):List o9 × Int:=if 3000<s.length then ([],12) else if s= [] then ([],0) else match mW (n5 32 s) [] with
 |none=>([],12)
 |some L=>if M5 L=0∧eG L=s then (L,0) else ([],12)
end Go.Itp
namespace Go.Proofs.YtimmmnanllcfoaaDoor
open Go Go.Itp
set_option maxRecDepth 100000
set_option maxHeartbeats 400000
set_option linter.unusedSimpArgs false
set_option linter.unusedVariables false
theorem bM9 (p:o9→Bool):∀ l:List o9,(∀ i,i<(l.takeWhile p).length→p l[i]! =true)∧((l.takeWhile p).length<l.length→p l[(l.takeWhile p).length]! =false)
 | []=>⟨fun i h=>by simp at h,fun h=>by simp at h⟩
 |x::l=>by
  obtain ⟨h1,h2⟩:=bM9 p l
  rw[List.takeWhile_cons]
  cases h:p x with
  |false=>exact ⟨fun i h=>by simp at h,fun _=>by simpa using h⟩
  |true=>
   simp only[if_true,List.length_cons]
   refine ⟨fun i hi=>?_,fun hi=>?_⟩
   ·cases i with
    |zero=>simpa using h
    |succ i=>simpa using h1 i (by omega)
   ·simpa using h2 (by omega)
theorem aC6 {x:o9} (hx:G4 x):(DY x).length≤11:=by
 have hb:=hx.bounds
 have l2:=F9 (z:=x.a) (by omega) (by omega)
 have l3:=F9 (z:=x.b) (by omega) (by omega)
 have ls:(fK x.purl).length=1:=by cases x.purl<;>rfl
 unfold DY
 split
 all_goals simp only[List.length_append,List.length_cons,List.length_nil,ls]
 all_goals omega
abbrev kdL:List UInt8:= [102,108,109,120,121,115,111]
abbrev kdK:List Nat:= [3,4,5,6,7,8,10]
abbrev kdD:List D:= [.sc (.int .u8 3),.sc (.int .u8 4),.sc (.int .u8 5),.sc (.int .u8 6),.sc (.int .u8 7),.sc (.int .u8 8),.sc (.int .u8 10)]
theorem bD5 (c:UInt8) (i:Nat) (hi:i<7):sV (zO.drop i) c=if kdL[i]! =c then kdK[i]! else sV (zO.drop (i+1)) c:=by
 rcases (by omega:i=0∨i=1∨i=2∨i=3∨i=4∨i=5∨i=6) with rfl|rfl|rfl|rfl|rfl|rfl|rfl<;>rfl
theorem cA3 (i:Nat) (hi:i<7):E4 kdD i none=some (.sc (.int .u8 (kdK[i]! :Nat))):=by
 rcases (by omega:i=0∨i=1∨i=2∨i=3∨i=4∨i=5∨i=6) with rfl|rfl|rfl|rfl|rfl|rfl|rfl<;>rfl
theorem bQ3 (nx:Nat):N2 nx 5 1 7 [.int .u8 0] [(0,1,.sc (.int .u8 3)),(1,1,.sc (.int .u8 4)),(2,1,.sc (.int .u8 5)),(3,1,.sc (.int .u8 6)),(4,1,.sc (.int .u8 7)),(5,1,.sc (.int .u8 8)),(6,1,.sc (.int .u8 10))]=some (.ref nx 0 7 7,some (.row 5 1 false false kdD),[]):=(rfl)
section
variable (w:World) (n:Nat)
theorem bQ4 (c:UInt8):m7 (EN w (n+1)) 102 [.sc (.int .u8 c.toNat)] (.sc (.int .u8 (dN c))) ⟨[],0,0⟩:=by
 refine d6 rfl rfl (fun _ _=>rfl) (Nat.le_of_ble_eq_true rfl) (g9 w) rfl fun C hC h0=>?_
 have hrn:C.E.rounds=E8:=by rw[hC,l6]
 have hcc:∀ d:UInt8,((d.toNat:Nat):Int)=((c.toNat:Nat):Int)↔d=c:=fun d=>⟨fun h=>UInt8.toNat_inj.1 (by omega),fun h=>by rw[h]⟩
 have e0:dN c=sV (zO.drop 0) c:=rfl
 generalize dN c=kf at*
 simp (disch:=first|exact bd (by with_unfolding_all rfl)|fail) only[WA,Nat.reduceEqDiff,Nat.reduceLT,↓reduceIte,reduceCtorEq,bC0,bQ3]
 refine A0 (fun m fr st=>∃ i:Nat,m=7 - i∧i≤7∧kf=sV (zO.drop i) c∧fr= [(0,.sc (.int .u8 c.toNat)),(3,m9 kdL),(4,.ref 0 0 7 7),(5,.sc (.int .i64 i))]∧st=⟨[(0,.row 5 1 false false kdD)],1,0⟩) 7 ?_ ⟨_,_,.refl _ _,0,rfl,by omega,e0,rfl,rfl⟩ ?_
 ·rw[hrn];unfold E8;omega
 rintro m fr st ⟨i,rfl,hi,hinv,rfl,rfl⟩
 have hsz:=p6 kdL
 have hsz7:kdL.length=7:=rfl
 by_cases hlt:i<7
 ·have hb:=U1 kdL .i64 (i:Int) (by omega) (by omega)
  rw[Int.toNat_natCast] at hb
  have hld:=cA3 i hlt
  rw[bD5 c i hlt] at hinv
  have hd:=hcc kdL[i]!
  generalize kdL[i]! =d at*
  generalize kdK[i]! =q at*
  generalize hDD:kdD=DD at*
  have hDl:DD.length=7:=by rw[← hDD];rfl
  generalize kdL=LL at*
  by_cases h:d=c
  ·rw[if_pos h] at hinv
   subst hinv
   subst h
   simp (disch:=first|omega|exact bd (by with_unfolding_all rfl)|(simp only[j4]<;>omega)) only[WA,Nat.reduceEqDiff,Nat.reduceLT,↓reduceIte,reduceCtorEq,HB,hb,hsz,hsz7,hld]
   exact b8 rfl h0 rfl
  ·rw[if_neg h] at hinv
   have hd:¬ ((d.toNat:Nat):Int)=((c.toNat:Nat):Int):=fun e=>h (hd.1 e)
   generalize d.toNat=dn at*
   generalize c.toNat=cn at*
   simp (disch:=first|omega|exact bd (by with_unfolding_all rfl)|fail) only[WA,Nat.reduceEqDiff,Nat.reduceLT,↓reduceIte,reduceCtorEq,HB,hb,hsz,hsz7,hd]
   exact ⟨7 - (i+1),_,_,by omega,.refl _ _,i+1,rfl,by omega,hinv,rfl,rfl⟩
 ·obtain rfl:i=7:=by omega
  rw[show sV (zO.drop 7) c=0 from rfl] at hinv
  subst hinv
  generalize kdL=LL at*
  simp (disch:=first|omega|exact bd (by with_unfolding_all rfl)|fail) only[WA,Nat.reduceEqDiff,Nat.reduceLT,↓reduceIte,reduceCtorEq,HB,hsz,hsz7]
  exact b8 rfl h0 rfl
theorem bE0 (x:o9) (hx:G4 x):m7 (EN w (n+2)) 103 [nF x] (m9 (DY x)) ⟨[],0,0⟩:=by
 have hb:=hx.bounds
 have d1:=UF w n x.a (by omega) (by omega)
 have d2:=UF w n x.b (by omega) (by omega)
 have l2:=F9 (z:=x.a) (by omega) (by omega)
 have l3:=F9 (z:=x.b) (by omega) (by omega)
 obtain ⟨k,p,a,b⟩:=x
 simp only at hb d1 d2 l2 l3
 unfold DY
 simp only
 generalize Lib.itoa a=A at*
 generalize Lib.itoa b=B at*
 clear hx
 rcases (by omega:(k=1∨k=2∨k=8)∨(k=3∨k=4∨k=5∨k=9∨k=10)∨(k=6∨k=7)) with (rfl|rfl|rfl)|(rfl|rfl|rfl|rfl|rfl)|(rfl|rfl)
 iterate 3
  ·cases p
   all_goals
    refine d6 rfl rfl (fun _ _=>rfl) (Nat.le_of_ble_eq_true rfl) (g9 w) rfl fun C hC h0=>?_
    repeat' (first|(simp (disch:=first|omega|exact bd (by with_unfolding_all rfl)|(simp only[j4]<;>omega)) only[WA,Nat.reduceEqDiff,Nat.reduceLT,↓reduceIte,reduceCtorEq,ZW,K3,List.append_assoc]))
    exact b8 rfl h0 rfl
 iterate 5
  ·cases p
   all_goals
    refine d6 rfl rfl (fun _ _=>rfl) (Nat.le_of_ble_eq_true rfl) (g9 w) rfl fun C hC h0=>?_
    repeat' (first|(simp (disch:=first|omega|exact bd (by with_unfolding_all rfl)|(simp only[j4]<;>omega)) only[WA,Nat.reduceEqDiff,Nat.reduceLT,↓reduceIte,reduceCtorEq,ZW,K3,List.append_assoc]))
    refine a6 (by rw[hC];exact d1.flat rfl rfl) ?_
    repeat' (first|(simp (disch:=first|exact bd (by with_unfolding_all rfl)|(simp only[j4]<;>omega)) only[WA,Nat.reduceEqDiff,Nat.reduceLT,↓reduceIte,K3,List.append_assoc]))
    all_goals try (exfalso;omega)
    exact b8 rfl h0 rfl
 all_goals
  cases p
  all_goals
   refine d6 rfl rfl (fun _ _=>rfl) (Nat.le_of_ble_eq_true rfl) (g9 w) rfl fun C hC h0=>?_
   repeat' (first|(simp (disch:=first|omega|exact bd (by with_unfolding_all rfl)|(simp only[j4]<;>omega)) only[WA,l8,r5,Nat.reduceEqDiff,Nat.reduceLT,Nat.reduceAdd,↓reduceIte,reduceCtorEq,ZW,K3,List.append_assoc]))
   refine Q1 (by rw[hC];exact d1.flat rfl rfl) ?_
   repeat' (first|(simp (disch:=first|exact bd (by with_unfolding_all rfl)|(simp only[j4]<;>omega)) only[WA,l8,r5,Nat.reduceEqDiff,Nat.reduceLT,Nat.reduceAdd,↓reduceIte,K3,List.append_assoc]))
   all_goals try (exfalso;omega)
   refine Q1 (by rw[hC];exact d2.flat rfl rfl) ?_
   repeat' (first|(simp (disch:=first|exact bd (by with_unfolding_all rfl)|(simp only[j4]<;>omega)) only[WA,Nat.reduceEqDiff,Nat.reduceLT,↓reduceIte,K3,List.append_assoc]))
   all_goals try (exfalso;omega)
   exact b8 rfl h0 rfl
theorem aE9 (L:List o9) (k:Nat) (hk:k<L.length):E4 (s5 L) (k*4) none=some (.sc (.int .u8 L[k]!.kind)):=
 LQ (fun a:o9=> [D.sc (.int .u8 a.kind),.sc (.bool a.purl),.sc (.int .i64 a.a),.sc (.int .i64 a.b)]) 4 L (fun _=>rfl) k 0 hk (by decide)
theorem bA0 {C:C5} (hC:C.E=EN w (n+2)) (s:Nat) (L:List o9) (hL:L.length≤200) (j:Nat) (hj:j<L.length) (q:V) (st:l9) {K:List KF} {P:B5}
  (hgo:gK C K (.exit 2) [(0,.sl s L.length (s5 L)),(3,q),(4,.sc (.int .i64 ((j+W2 L[j]! (L.drop (j+1)):Nat):Int))),(5,.sc (.int .i64 ((1+W2 L[j]! (L.drop (j+1)):Nat):Int))),(47,.sc (.bool false))] st P):
  gL C [0,3,4,5] BU K [(0,.sl s L.length (s5 L)),(3,q),(4,.sc (.int .i64 j)),(5,.sc (.int .i64 1))] st P:=by
 have hrn:C.E.rounds=E8:=by rw[hC,l6]
 have hil:=z6 L
 have hdl:(L.drop (j+1)).length=L.length - (j+1):=List.length_drop
 have htl:=PN L[j]! (L.drop (j+1))
 have hat:(∀ i,i<W2 L[j]! (L.drop (j+1))→(L.drop (j+1))[i]! =L[j]!)∧(L[j]!.kind=1→W2 L[j]! (L.drop (j+1))<(L.drop (j+1)).length→(L.drop (j+1))[W2 L[j]! (L.drop (j+1))]! ≠ L[j]!)∧(L[j]!.kind ≠ 1→W2 L[j]! (L.drop (j+1))=0):=by
  have h1:=bM9 (fun y=>decide (y=L[j]!)) (L.drop (j+1))
  unfold W2
  by_cases hk:L[j]!.kind=1
  ·rw[if_pos hk]
   exact ⟨fun i hi=>of_decide_eq_true (h1.1 i hi),fun _ hi=>of_decide_eq_false (h1.2 hi),fun h=>absurd hk h⟩
  ·rw[if_neg hk]
   exact ⟨fun i hi=>by omega,fun h=>absurd h hk,fun _=>rfl⟩
 generalize W2 L[j]! (L.drop (j+1))=t at*
 obtain ⟨ht,hn,hz⟩:=hat
 have hsame:∀ k,k≤t→L[j+k]! =L[j]! :=fun k hk=>by
  cases k with
  |zero=>rfl
  |succ k=>
   have:=ht k (by omega)
   rwa [vR (L:=L) (j:=j+1) (i:=k) (by omega),show j+1+k=j+(k+1) by omega] at this
 refine A0 (fun m fr st'=>∃ k:Nat,m=t - k∧k≤t∧fr= [(0,.sl s L.length (s5 L)),(3,q),(4,.sc (.int .i64 ((j+k:Nat):Int))),(5,.sc (.int .i64 ((1+k:Nat):Int)))]∧st'=st) t ?_ ⟨_,_,.refl _ _,0,by omega,Nat.zero_le _,rfl,rfl⟩ ?_
 ·rw[hrn];unfold E8;omega
 rintro m fr st' ⟨k,rfl,hk,rfl,rfl⟩
 have hagj:=L5 L (j+k) (by omega)
 rw[hsame k hk] at hagj
 have hkd:=aE9 L (j+k) (by omega)
 rw[hsame k hk] at hkd
 have hjk:((j+k:Nat):Int)+1=((j+k+1:Nat):Int):=by omega
 have hjk1:((1+k:Nat):Int)+1=((1+(k+1):Nat):Int):=by omega
 by_cases hk1:L[j]!.kind=1
 ·by_cases hlt:j+k+1<L.length
  ·have hag:=L5 L (j+k+1) hlt
   by_cases hkt:k<t
   ·rw[show j+k+1=j+(k+1) by omega,hsame (k+1) hkt] at hag
    rw[show j+(k+1)=j+k+1 by omega] at hag
    generalize L[j]! =X at*
    obtain ⟨xk,xp,xa,xb⟩:=X
    simp only at hk1
    subst hk1
    simp (disch:=first|omega|exact bd (by with_unfolding_all rfl)|(simp only[j4]<;>omega)) only[WA,l8,r5,Nat.reduceEqDiff,Nat.reduceLT,↓reduceIte,reduceCtorEq,BU,hjk,hkd,hag,hagj,↓aX]
    exact ⟨t - (k+1),_,_,by omega,.refl _ _,k+1,rfl,by omega,by rw[hjk1];rfl,rfl⟩
   ·have:k=t:=by omega
    subst this
    have he:=hn hk1 (by omega)
    rw[vR (L:=L) (j:=j+1) (i:=k) (by omega),show j+1+k=j+k+1 by omega] at he
    have hd:=decide_eq_false he
    clear hn ht hz hsame
    generalize L[j]! =X at*
    generalize L[j+k+1]! =Y at*
    obtain ⟨xk,xp,xa,xb⟩:=X
    obtain ⟨yk,yp,ya,yb⟩:=Y
    simp only at hk1
    subst hk1
    simp (disch:=first|omega|exact bd (by with_unfolding_all rfl)|fail) only[WA,l8,r5,Nat.reduceEqDiff,Nat.reduceLT,↓reduceIte,reduceCtorEq,BU,hjk,hkd,hag,hagj,↓aX,hd]
    exact hgo
  ·have:k=t:=by omega
   subst this
   clear hn ht hz hsame
   generalize L[j]! =X at*
   obtain ⟨xk,xp,xa,xb⟩:=X
   simp only at hk1
   subst hk1
   simp (disch:=first|omega|exact bd (by with_unfolding_all rfl)|fail) only[WA,l8,r5,Nat.reduceEqDiff,Nat.reduceLT,↓reduceIte,reduceCtorEq,BU,hjk,hkd,hagj]
   exact hgo
 ·obtain rfl:t=0:=hz hk1
  obtain rfl:k=0:=by omega
  clear hn ht hz hsame
  generalize L[j]! =X at*
  obtain ⟨xk,xp,xa,xb⟩:=X
  simp only at hk1
  have hk1:¬ ((xk:Nat):Int)=1:=by omega
  simp only[Nat.add_zero] at hkd hagj hgo hjk ⊢
  simp (disch:=first|omega|exact bd (by with_unfolding_all rfl)|fail) only[WA,l8,r5,Nat.reduceEqDiff,Nat.reduceLT,↓reduceIte,reduceCtorEq,BU,hjk,hkd,hagj,hk1]
  exact hgo
theorem aH5 (s:Nat) (L:List o9) (hL:L.length≤200) (hok:L.all C9=true):m7 (EN w (n+3)) 90 [.sl s L.length (s5 L)] (m9 (eG L)) ⟨[],0,0⟩:=by
 have hil:=z6 L
 have hP:∀ x ∈ L,G4 x:=fun x hx=>D4.1 (List.all_eq_true.1 hok x hx)
 unfold eG
 generalize hW:wrF L.length L=W
 refine d6 rfl rfl (fun _ _=>rfl) (Nat.le_of_ble_eq_true rfl) (g9 w) rfl fun C hC h0=>?_
 have hrn:C.E.rounds=E8:=by rw[hC,l6]
 simp (disch:=first|exact bd (by with_unfolding_all rfl)|fail) only[WA,Nat.reduceEqDiff,Nat.reduceLT,↓reduceIte,reduceCtorEq,c90]
 refine A0 (fun m fr st=>∃ (j f:Nat) (F:List UInt8),m=L.length - j∧j≤L.length∧W=F++wrF f (L.drop j)∧L.length - j≤f∧(j=0↔F= [])∧F.length≤20*j∧fr= [(0,.sl s L.length (s5 L)),(3,m9 (F.drop 1)),(4,.sc (.int .i64 j))]∧st=⟨[],0,0⟩) L.length ?_ ⟨_,_,.refl _ _,0,L.length,[],by omega,Nat.zero_le _,hW.symm,by omega,⟨fun _=>rfl,fun _=>rfl⟩,by simp,rfl,rfl⟩ ?_
 ·rw[hrn];unfold E8;omega
 rintro m fr st ⟨j,f,F,rfl,hj,hinv,hf,hjF,hFl,rfl,rfl⟩
 by_cases hlt:j<L.length
 ·obtain ⟨g,rfl⟩:∃ g,f=g+1:=⟨f - 1,by omega⟩
  have hXP:G4 L[j]! :=hP _ (by rw[getElem!_pos _ j hlt];exact List.getElem_mem hlt)
  have hone:=bE0 w n L[j]! hXP
  have hol:=aC6 hXP
  have hag:=L5 L j hlt
  have htl:=PN L[j]! (L.drop (j+1))
  rw[List.length_drop] at htl
  have hin:=fun q st K P=>bA0 w n hC s L hL j hlt q st (K:=K) (P:=P)
  rw[vS hlt,wrF,List.drop_drop] at hinv
  have hdec:=UF w (n+1) ((1+W2 L[j]! (L.drop (j+1)):Nat):Int) (by omega) (by omega)
  have hdl:=F9 (z:=((1+W2 L[j]! (L.drop (j+1)):Nat):Int)) (by omega) (by omega)
  rw[show ((W2 L[j]! (L.drop (j+1))+1:Nat):Int)=((1+W2 L[j]! (L.drop (j+1)):Nat):Int) by omega] at hinv
  generalize W2 L[j]! (L.drop (j+1))=t at*
  generalize DY L[j]! =O at*
  generalize Lib.itoa ((1+t:Nat):Int)=A at*
  generalize hX:L[j]! =X at*
  have hstep:W=(F++32::(O++if 0<t then A else []))++wrF g (L.drop (j+1+t)):=by rw[hinv];simp
  have hjt:((j+t:Nat):Int)+1=((j+1+t:Nat):Int):=by omega
  rcases F with _|⟨c,F0⟩
  ·obtain rfl:j=0:=hjF.2 rfl
   obtain ⟨xk,xp,xa,xb⟩:=X
   by_cases ht:0<t
   ·rw[if_pos ht] at hstep
    simp (disch:=first|omega|exact bd (by with_unfolding_all rfl)|fail) only[WA,Nat.reduceEqDiff,Nat.reduceLT,↓reduceIte,reduceCtorEq,BV,hag,List.drop_nil]
    all_goals try (exfalso;omega)
    refine a6 (by rw[hC];exact hone.flat rfl rfl) ?_
    simp (disch:=first|omega|exact bd (by with_unfolding_all rfl)|fail) only[WA,Nat.reduceEqDiff,Nat.reduceLT,↓reduceIte,reduceCtorEq,K3,List.nil_append]
    all_goals try (exfalso;omega)
    refine hin _ _ _ _ ?_
    simp (disch:=first|omega|exact bd (by with_unfolding_all rfl)|fail) only[WA,Nat.reduceEqDiff,Nat.reduceLT,↓reduceIte,reduceCtorEq]
    all_goals try (exfalso;omega)
    refine a6 (by rw[hC];exact hdec.flat rfl rfl) ?_
    simp (disch:=first|omega|exact bd (by with_unfolding_all rfl)|fail) only[WA,Nat.reduceEqDiff,Nat.reduceLT,↓reduceIte,reduceCtorEq,K3,hjt]
    all_goals try (exfalso;omega)
    exact ⟨L.length - (0+1+t),_,_,by omega,.refl _ _,0+1+t,g,[]++32::(O++A),rfl,by omega,hstep,by omega,⟨fun h=>by omega,fun h=>by cases h⟩,by simp;omega,by rw[show ((0+1+t:Nat):Int)=(t:Int)+1 by omega];rfl,rfl⟩
   ·rw[if_neg ht,List.append_nil] at hstep
    obtain rfl:t=0:=by omega
    simp (disch:=first|omega|exact bd (by with_unfolding_all rfl)|fail) only[WA,Nat.reduceEqDiff,Nat.reduceLT,↓reduceIte,reduceCtorEq,BV,hag,List.drop_nil]
    all_goals try (exfalso;omega)
    refine a6 (by rw[hC];exact hone.flat rfl rfl) ?_
    simp (disch:=first|omega|exact bd (by with_unfolding_all rfl)|fail) only[WA,Nat.reduceEqDiff,Nat.reduceLT,↓reduceIte,reduceCtorEq,K3,List.nil_append]
    all_goals try (exfalso;omega)
    refine hin _ _ _ _ ?_
    simp (disch:=first|omega|exact bd (by with_unfolding_all rfl)|fail) only[WA,Nat.reduceEqDiff,Nat.reduceLT,↓reduceIte,reduceCtorEq]
    all_goals try (exfalso;omega)
    exact ⟨L.length - (0+1+0),_,_,by omega,.refl _ _,0+1+0,g,[]++32::O,rfl,by omega,hstep,by omega,⟨fun h=>by omega,fun h=>by cases h⟩,by simp;omega,rfl,rfl⟩
  ·have hj0:j ≠ 0:=fun h=>by have:=hjF.1 h;cases this
   simp only[List.length_cons] at hFl
   obtain ⟨xk,xp,xa,xb⟩:=X
   by_cases ht:0<t
   ·rw[if_pos ht] at hstep
    simp (disch:=first|omega|exact bd (by with_unfolding_all rfl)|(simp only[j4]<;>omega)) only[WA,Nat.reduceEqDiff,Nat.reduceLT,↓reduceIte,reduceCtorEq,BV,hag,List.drop_succ_cons,List.drop_zero,K3]
    all_goals try (exfalso;omega)
    refine a6 (by rw[hC];exact hone.flat rfl rfl) ?_
    simp (disch:=first|exact bd (by with_unfolding_all rfl)|(simp only[j4]<;>omega)) only[WA,Nat.reduceEqDiff,Nat.reduceLT,↓reduceIte,reduceCtorEq,K3,List.append_assoc]
    all_goals try (exfalso;omega)
    refine hin _ _ _ _ ?_
    simp (disch:=first|omega|exact bd (by with_unfolding_all rfl)|fail) only[WA,Nat.reduceEqDiff,Nat.reduceLT,↓reduceIte,reduceCtorEq]
    all_goals try (exfalso;omega)
    refine a6 (by rw[hC];exact hdec.flat rfl rfl) ?_
    simp (disch:=first|omega|exact bd (by with_unfolding_all rfl)|(simp only[j4]<;>omega)) only[WA,Nat.reduceEqDiff,Nat.reduceLT,↓reduceIte,reduceCtorEq,K3,hjt,List.append_assoc]
    all_goals try (exfalso;omega)
    exact ⟨L.length - (j+1+t),_,_,by omega,.refl _ _,j+1+t,g,(c::F0)++32::(O++A),rfl,by omega,hstep,by omega,⟨fun h=>by omega,fun h=>by cases h⟩,by simp;omega,rfl,rfl⟩
   ·rw[if_neg ht,List.append_nil] at hstep
    obtain rfl:t=0:=by omega
    simp (disch:=first|omega|exact bd (by with_unfolding_all rfl)|(simp only[j4]<;>omega)) only[WA,Nat.reduceEqDiff,Nat.reduceLT,↓reduceIte,reduceCtorEq,BV,hag,List.drop_succ_cons,List.drop_zero,K3]
    all_goals try (exfalso;omega)
    refine a6 (by rw[hC];exact hone.flat rfl rfl) ?_
    simp (disch:=first|exact bd (by with_unfolding_all rfl)|(simp only[j4]<;>omega)) only[WA,Nat.reduceEqDiff,Nat.reduceLT,↓reduceIte,reduceCtorEq,K3,List.append_assoc]
    all_goals try (exfalso;omega)
    refine hin _ _ _ _ ?_
    simp (disch:=first|omega|exact bd (by with_unfolding_all rfl)|fail) only[WA,Nat.reduceEqDiff,Nat.reduceLT,↓reduceIte,reduceCtorEq]
    all_goals try (exfalso;omega)
    exact ⟨L.length - (j+1+0),_,_,by omega,.refl _ _,j+1+0,g,(c::F0)++32::O,rfl,by omega,hstep,by omega,⟨fun h=>by omega,fun h=>by cases h⟩,by simp;omega,rfl,rfl⟩
 ·have:j=L.length:=by omega
  subst this
  rw[List.drop_length] at hinv
  have hw0:wrF f []= []:=by cases f<;>rfl
  rw[hw0,List.append_nil] at hinv
  subst hinv
  simp (disch:=first|omega|exact bd (by with_unfolding_all rfl)|fail) only[WA,Nat.reduceEqDiff,Nat.reduceLT,↓reduceIte,reduceCtorEq,BV]
  all_goals try (exfalso;omega)
  exact b8 rfl h0 rfl
end
set_option maxHeartbeats 8000000
abbrev bN6 (r:List o9 × Bool):V:= .tup [.sl 3 r.1.length (s5 r.1),.sc (.bool r.2)]
theorem X4 (H:E3) (o t:Nat) (g:Bool) (a b c d:D) (h:f7 H o=some (.row t 4 g false [a,b,c,d])):x6 H (.ref o 0 1 1)=some (.sl 0 1 [a,b,c,d]):=by
 simp only[x6,cU,h]
 rfl
section
variable (w:World) (n:Nat)
theorem aH3 {C:C5} (hC:C.E=EN w (n+1)) (h0:C.w0.nx=0) (x:o9) (u:Nat) {K:List KF} {P:B5}
  (hgo:gK C K (.exit 0) [(6,.ptr 0 0),(7,.sc (.int .i64 u)),(9,.gr 2 1 (min u 300)),(10,.sc (.int .i64 (min u 300:Nat))),(72,.sc (.bool false))] ⟨[(1,.gro 48 4 false (s5 (List.replicate (min u 300) x))),(0,cK x)],2,0⟩ P):
  gL C [6,7,9,10] KV K [(6,.ptr 0 0),(7,.sc (.int .i64 u)),(9,.sc (.slice none 0 0)),(10,.sc (.int .i64 0))] ⟨[(0,cK x)],1,0⟩ P:=by
 have hrn:C.E.rounds=E8:=by rw[hC,l6]
 generalize hM:min u 300=M at*
 refine A0 (fun m fr st=>∃ j:Nat,m=M - j∧j≤M∧fr= [(6,.ptr 0 0),(7,.sc (.int .i64 u)),(9,.gr 2 1 j),(10,.sc (.int .i64 j))]∧st=⟨[(1,.gro 48 4 false (s5 (List.replicate j x))),(0,cK x)],2,0⟩) M ?_ ⟨_,_,O7 9 48 4 rfl,0,by omega,Nat.zero_le _,rfl,rfl⟩ ?_
 ·rw[hrn];unfold E8;omega
 rintro m fr st ⟨j,rfl,hj,rfl,rfl⟩
 by_cases hlt:j<M
 ·have hsn:=FK (List.replicate j x) x
  have hd:=z6 (List.replicate j x)
  rw[List.length_replicate] at hd
  have hrs:List.replicate (j+1) x=List.replicate j x++ [x]:=List.replicate_succ'
  generalize s5 (List.replicate j x)=AD at*
  have hju:j<u:=by omega
  have hj3:j<300:=by omega
  obtain ⟨xk,xp,xa,xb⟩:=x
  simp (disch:=first|omega|exact bd (by with_unfolding_all rfl)|(simp only[j4]<;>omega)) only[WA,Nat.reduceEqDiff,Nat.reduceLT,Nat.reduceAdd,↓reduceIte,reduceCtorEq,KV,O4]
  all_goals try (exfalso;omega)
  refine ⟨M - (j+1),_,_,by omega,u6 [(3,1),(0,0)] 2 h0 rfl rfl rfl rfl,j+1,rfl,by omega,rfl,?_⟩
  rw[hrs,hsn];rfl
 ·have:j=M:=by omega
  subst this
  generalize s5 (List.replicate j x)=AD at*
  rcases (by omega:¬ j<u∨(j<u∧¬ j<300)) with h|⟨h,h'⟩
  ·simp (disch:=first|omega|exact bd (by with_unfolding_all rfl)|fail) only[WA,Nat.reduceEqDiff,Nat.reduceLT,↓reduceIte,KV]
   all_goals try (exfalso;omega)
   exact hgo
  ·simp (disch:=first|omega|exact bd (by with_unfolding_all rfl)|fail) only[WA,Nat.reduceEqDiff,Nat.reduceLT,↓reduceIte,KV]
   all_goals try (exfalso;omega)
   exact hgo
theorem bV5 (l:List UInt8) (hl:l.length≤100000):m7 (EN w (n+2)) 89 [m9 l] (bN6 (mA l)) ⟨[],0,0⟩:=by
 have hsz:=p6 l
 have heq:∀ m:List UInt8,((⟨l.toArray⟩:ByteArray)=⟨m.toArray⟩)=(l=m):=aF l
 unfold mA
 by_cases h1:l= [121,111]
 ·rw[if_pos h1]
  subst h1
  refine y6 rfl rfl (fun _ _=>rfl) (Nat.le_of_ble_eq_true rfl) (g9 w) G0 rfl fun C hC h0=>?_
  simp (disch:=first|exact bd (by with_unfolding_all rfl)|(simp only[j4]<;>omega)) only[WA,Nat.reduceEqDiff,Nat.reduceLT,↓reduceIte,reduceCtorEq,ZX,O4]
  exact R5 (s:=0) (n:=1) (X4 _ _ _ _ _ _ _ _ rfl) rfl (.inl (by decide)) h0 rfl
 rw[if_neg h1]
 have h1e:((⟨l.toArray⟩:ByteArray)=⟨#[121,111]⟩)=False:=(heq [121,111]).trans (eq_false h1)
 have hs2:2≤l.length→gQ none (some (.int .i64 2)) (m9 l)=some (m9 (l.take 2)):=fun h=>pN l .i64 2 (by omega) (by omega)
 by_cases h2:2<l.length∧l.take 2= [111,110]
 ·rw[if_pos h2]
  have hs3:gQ (some (.int .i64 2)) none (m9 l)=some (m9 (l.drop 2)):=aU l .i64 2 (by omega) (by omega)
  have hnu:=tZ w n (l.drop 2) (by rw[List.length_drop];omega)
  have hs2:=hs2 (by omega)
  rw[h2.2] at hs2
  have h2l:=h2.1
  unfold lP at hnu
  generalize V7 (l.drop 2)=N at*
  generalize l.drop 2=T at*
  refine y6 rfl rfl (fun _ _=>rfl) (Nat.le_of_ble_eq_true rfl) (g9 w) G0 rfl fun C hC h0=>?_
  simp (disch:=first|omega|exact bd (by with_unfolding_all rfl)|(simp only[j4]<;>omega)) only[WA,Nat.reduceEqDiff,Nat.reduceLT,↓reduceIte,reduceCtorEq,ZX,h1e,hsz,hs2,hs3]
  all_goals try (exfalso;omega)
  refine a6 (by rw[hC];exact hnu.flat rfl rfl) ?_
  simp (disch:=first|exact bd (by with_unfolding_all rfl)|(simp only[j4]<;>omega)) only[WA,Nat.reduceEqDiff,Nat.reduceLT,↓reduceIte,reduceCtorEq,O4]
  exact R5 (s:=0) (n:=1) (X4 _ _ _ _ _ _ _ _ rfl) rfl (.inl (by decide)) h0 rfl
 rw[if_neg h2]
 have h2e:2<l.length→((⟨(l.take 2).toArray⟩:ByteArray)=⟨#[111,110]⟩)=False:=fun h=>(aF (l.take 2) [111,110]).trans (eq_false fun e=>h2 ⟨h,e⟩)
 clear h2 heq
 by_cases h3:l.length=0∨(l[0]! ≠ 107∧l[0]! ≠ 112)
 ·rw[if_pos h3]
  rcases h3 with h3|⟨h3,h4⟩
  ·refine y6 rfl rfl (fun _ _=>rfl) (Nat.le_of_ble_eq_true rfl) (g9 w) G0 rfl fun C hC h0=>?_
   simp (disch:=first|omega|exact bd (by with_unfolding_all rfl)|fail) only[WA,Nat.reduceEqDiff,Nat.reduceLT,↓reduceIte,reduceCtorEq,ZX,h1e,hsz]
   all_goals try (exfalso;omega)
   exact K4 h0 rfl
  ·have a3:¬ ((l[0]!.toNat:Nat):Int)=107:=fun h=>h3 (UInt8.toNat_inj.1 (show l[0]!.toNat=107 by omega))
   have a4:¬ ((l[0]!.toNat:Nat):Int)=112:=fun h=>h4 (UInt8.toNat_inj.1 (show l[0]!.toNat=112 by omega))
   have hb0:0<l.length→fD (m9 l) (.sc (.int .i64 0))=some (.sc (.int .u8 (l[0]!.toNat:Nat))):=fun h=>U1 l .i64 0 (by omega) (by omega)
   generalize l[0]!.toNat=B at*
   refine y6 rfl rfl (fun _ _=>rfl) (Nat.le_of_ble_eq_true rfl) (g9 w) G0 rfl fun C hC h0=>?_
   repeat' (first|(simp (disch:=first|omega|exact bd (by with_unfolding_all rfl)|(simp only[j4]<;>omega)) only[WA,Nat.reduceEqDiff,Nat.reduceLT,↓reduceIte,reduceCtorEq,ZX,h1e,hsz,hs2,h2e,hb0,a3,a4])|(apply y8<;>intro _))
   all_goals try (exfalso;omega)
   all_goals exact K4 h0 rfl
 rw[if_neg h3]
 have hl0:0<l.length:=by omega
 have hc:l[0]! =107∨l[0]! =112:=by
  by_cases e:l[0]! =107
  ·exact .inl e
  ·exact .inr (by
    by_cases e2:l[0]! =112
    ·exact e2
    ·exact absurd (.inr ⟨e,e2⟩) h3)
 clear h3
 have hb0:fD (m9 l) (.sc (.int .i64 0))=some (.sc (.int .u8 (l[0]!.toNat:Nat))):=U1 l .i64 0 (by omega) (by omega)
 obtain ⟨p,hp,hpn⟩:∃ p:Bool,decide (l[0]! =112)=p∧((l[0]!.toNat:Nat):Int)=if p=true then 112 else 107:=by
  rcases hc with e|e
  ·exact ⟨false,by rw[e];rfl,by rw[e];rfl⟩
  ·exact ⟨true,by rw[e];rfl,by rw[e];rfl⟩
 rw[hp]
 rw[hpn] at hb0
 clear hc hpn hp
 by_cases h4:l.length=1
 ·rw[if_pos h4]
  cases p
  all_goals
   simp only[reduceIte,Bool.false_eq_true] at hb0
   refine y6 rfl rfl (fun _ _=>rfl) (Nat.le_of_ble_eq_true rfl) (g9 w) G0 rfl fun C hC h0=>?_
   repeat' (first|(simp (disch:=first|omega|exact bd (by with_unfolding_all rfl)|(simp only[j4]<;>omega)) only[WA,Nat.reduceEqDiff,Nat.reduceLT,Nat.reduceAdd,Int.reduceEq,↓reduceIte,reduceCtorEq,List.replicate,ZX,h1e,hsz,hs2,h2e,hb0,O4]))
   all_goals try (exfalso;omega)
   all_goals exact R5 (s:=0) (n:=1) (X4 _ _ _ _ _ _ _ _ rfl) rfl (.inl (by decide)) h0 rfl
 rw[if_neg h4]
 have hs1:gQ (some (.int .i64 1)) none (m9 l)=some (m9 (l.drop 1)):=aU l .i64 1 (by omega) (by omega)
 have hnu:=tZ w n (l.drop 1) (by rw[List.length_drop];omega)
 have hb1:fD (m9 l) (.sc (.int .i64 1))=some (.sc (.int .u8 (l[1]!.toNat:Nat))):=U1 l .i64 1 (by omega) (by omega)
 have hki:=bQ4 w n l[1]!
 cases hN:V7 (l.drop 1) with
 |some z=>
  rw[hN] at hnu
  unfold lP at hnu
  simp only[Option.getD_some,Option.isSome_some] at hnu
  obtain ⟨u,rfl⟩:∃ u:Nat,z=u:=by
   unfold V7 at hN
   split at hN
   ·exact ⟨_,(Option.some.inj hN).symm⟩
   ·cases hN
  simp only[Int.toNat_natCast]
  clear hki hb1 hN
  generalize l.drop 1=T at*
  have hd:∀ q:Bool,(s5 (List.replicate (min u 300) (⟨1,q,0,0⟩:o9))).length=min u 300*4:=fun q=>by rw[z6,List.length_replicate]
  show m7 _ _ _ (.tup [.sl 3 (List.replicate (min u 300) (⟨1,p,0,0⟩:o9)).length _,_]) _
  rw[List.length_replicate]
  cases p
  all_goals
   simp only[reduceIte,Bool.false_eq_true] at hb0
   refine y6 rfl rfl (fun _ _=>rfl) (Nat.le_of_ble_eq_true rfl) (g9 w) G0 rfl fun C hC h0=>?_
   have hrn:C.E.rounds=E8:=by rw[hC,l6]
   repeat' (first|(simp (disch:=first|omega|exact bd (by with_unfolding_all rfl)|(simp only[j4]<;>omega)) only[WA,Nat.reduceEqDiff,Nat.reduceLT,Int.reduceEq,↓reduceIte,reduceCtorEq,List.replicate,ZX,h1e,hsz,hs2,h2e,hb0,hs1])|(apply y8<;>intro _))
   all_goals try (exfalso;omega)
   all_goals refine a6 (by rw[hC];exact hnu.flat rfl rfl) ?_
   all_goals repeat' (first|(simp (disch:=first|exact bd (by with_unfolding_all rfl)|fail) only[WA,Nat.reduceEqDiff,Nat.reduceLT,↓reduceIte,reduceCtorEq]))
   all_goals refine aH3 w n hC h0 ⟨1,_,0,0⟩ u ?_
   all_goals generalize min u 300=M at*
   all_goals repeat' (first|(simp (disch:=first|exact bd (by with_unfolding_all rfl)|fail) only[WA,Nat.reduceEqDiff,Nat.reduceLT,↓reduceIte]))
   all_goals first|exact R5 (s:=2) (cD rfl (hd false)) rfl (.inl (by decide)) h0 rfl|exact R5 (s:=2) (cD rfl (hd true)) rfl (.inl (by decide)) h0 rfl
 |none=>
  rw[hN] at hnu
  unfold lP at hnu
  simp only[Option.getD_none,Option.isSome_none] at hnu
  simp only
  have hkl:=NK l[1]!
  generalize dN l[1]! =k at*
  generalize l[1]!.toNat=B1 at*
  clear hN
  generalize l.drop 1=T1 at*
  by_cases h8:k=8
  ·rw[if_pos h8]
   subst h8
   by_cases hl2:l.length=2
   all_goals
    simp only[hl2,decide_true,decide_false]
    cases p
    all_goals
     simp only[reduceIte,Bool.false_eq_true] at hb0
     refine y6 rfl rfl (fun _ _=>rfl) (Nat.le_of_ble_eq_true rfl) (g9 w) G0 rfl fun C hC h0=>?_
     repeat' (first|(simp (disch:=first|omega|exact bd (by with_unfolding_all rfl)|(simp only[j4]<;>omega)) only[WA,Nat.reduceEqDiff,Nat.reduceLT,Int.reduceEq,↓reduceIte,reduceCtorEq,List.replicate,ZX,h1e,hsz,hs2,h2e,hb0,hs1]))
     all_goals try (exfalso;omega)
     all_goals refine a6 (by rw[hC];exact hnu.flat rfl rfl) ?_
     all_goals repeat' (first|(simp (disch:=first|exact bd (by with_unfolding_all rfl)|fail) only[WA,Nat.reduceEqDiff,Nat.reduceLT,↓reduceIte,reduceCtorEq,hb1]))
     all_goals refine a6 (by rw[hC];exact hki.flat rfl rfl) ?_
     all_goals repeat' (first|(simp (disch:=first|omega|exact bd (by with_unfolding_all rfl)|(simp only[j4]<;>omega)) only[WA,Nat.reduceEqDiff,Nat.reduceLT,Nat.reduceAdd,↓reduceIte,reduceCtorEq,O4,hsz]))
     all_goals try (exfalso;omega)
     all_goals exact R5 (s:=0) (n:=1) (X4 _ _ _ _ _ _ _ _ rfl) rfl (.inl (by decide)) h0 rfl
  rw[if_neg h8]
  have hs3:gQ (some (.int .i64 2)) none (m9 l)=some (m9 (l.drop 2)):=aU l .i64 2 (by omega) (by omega)
  have hct:=aK4 w n (l.drop 2) 47 (by rw[List.length_drop];omega)
  have hwl:=(Go.Itp.words_len (c:=47) (l.drop 2).length (s:=l.drop 2) (Nat.le_refl _))
  have hwn:=eF 47 (l.drop 2)
  have hdl:(l.drop 2).length=l.length - 2:=List.length_drop
  generalize n5 47 (l.drop 2)=q at*
  generalize l.drop 2=T2 at*
  obtain ⟨q0,qt,rfl⟩:∃ a t,q=a::t:=by
   cases q with
   |nil=>exact absurd rfl hwn
   |cons a t=>exact ⟨a,t,rfl⟩
  have hn0:=tZ w n q0 (by have:=hwl.2 q0 (by simp);omega)
  have dl0:E4 (sD q0::List.map sD qt) 0 none=some (m9 q0):=(rfl)
  rw[show (q0::qt)[0]! =q0 from rfl]
  unfold lP at hn0
  by_cases h67:k=6∨k=7
  ·rw[if_pos h67]
   by_cases hp2:(q0::qt).length=2
   ·rw[if_pos hp2]
    obtain ⟨q1,rfl⟩:∃ a,qt= [a]:=by
     cases qt with
     |nil=>simp at hp2
     |cons a t=>cases t with
      |nil=>exact ⟨a,rfl⟩
      |cons b t=>simp at hp2
    have hn1:=tZ w n q1 (by have:=hwl.2 q1 (by simp);omega)
    have dlA:E4 [sD q0,sD q1] 0 none=some (m9 q0):=(rfl)
    have dlB:E4 [sD q0,sD q1] 1 none=some (m9 q1):=(rfl)
    have hl3:2<l.length:=by have:=hwl.1;omega
    rw[show [q0,q1][1]! =q1 from rfl]
    unfold lP at hn1
    generalize (V7 q0).getD 0=a0 at*
    generalize (V7 q0).isSome=b0 at*
    generalize (V7 q1).getD 0=a1 at*
    generalize (V7 q1).isSome=b1 at*
    have hbb:(b1 && b0)=if b1=true then b0 else false:=by cases b1<;>rfl
    rw[hbb]
    clear hbb hwl hwn hp2 hdl hkl h8
    rcases h67 with rfl|rfl
    all_goals
     cases b1
     all_goals
      cases p
      all_goals
       simp only[reduceIte,Bool.false_eq_true] at hb0 ⊢
       refine y6 rfl rfl (fun _ _=>rfl) (Nat.le_of_ble_eq_true rfl) (g9 w) G0 rfl fun C hC h0=>?_
       repeat' (first|(simp (disch:=first|omega|exact bd (by with_unfolding_all rfl)|(simp only[j4]<;>omega)) only[WA,Nat.reduceEqDiff,Nat.reduceLT,Int.reduceEq,↓reduceIte,reduceCtorEq,List.replicate,ZX,h1e,hsz,hs2,h2e,hb0,hs1]))
       all_goals try (exfalso;omega)
       all_goals refine a6 (by rw[hC];exact hnu.flat rfl rfl) ?_
       all_goals repeat' (first|(simp (disch:=first|exact bd (by with_unfolding_all rfl)|fail) only[WA,Nat.reduceEqDiff,Nat.reduceLT,↓reduceIte,reduceCtorEq,hb1]))
       all_goals refine a6 (by rw[hC];exact hki.flat rfl rfl) ?_
       all_goals repeat' (first|(simp (disch:=first|omega|exact bd (by with_unfolding_all rfl)|(simp only[j4]<;>omega)) only[WA,Nat.reduceEqDiff,Nat.reduceLT,↓reduceIte,reduceCtorEq,hsz,hs3]))
       all_goals try (exfalso;omega)
       all_goals refine k9 (by rw[hC];exact hct) rfl rfl (fun _=>rfl) ?_
       all_goals repeat' (first|(simp (disch:=first|omega|exact bd (by with_unfolding_all rfl)|fail) only[WA,Nat.reduceEqDiff,Nat.reduceLT,Nat.reduceAdd,↓reduceIte,AT,tn1,dlA,dlB,List.length_cons,List.length_nil,List.map_cons,List.map_nil]))
       all_goals refine a6 (by rw[hC];exact hn1.flat rfl rfl) ?_
       all_goals repeat' (first|(simp (disch:=first|omega|exact bd (by with_unfolding_all rfl)|(simp only[j4]<;>omega)) only[WA,Nat.reduceEqDiff,Nat.reduceLT,↓reduceIte,AT,tn1,dlA,dlB]))
       all_goals refine a6 (by rw[hC];exact hn0.flat rfl rfl) ?_
       all_goals repeat' (first|(simp (disch:=first|exact bd (by with_unfolding_all rfl)|(simp only[j4]<;>omega)) only[WA,Nat.reduceEqDiff,Nat.reduceLT,Nat.reduceAdd,↓reduceIte,O4]))
       all_goals exact R5 (s:=0) (n:=1) (X4 _ _ _ _ _ _ _ _ rfl) rfl (.inl (by decide)) h0 rfl
   ·rw[if_neg hp2]
    have hp2:¬ qt.length+1=2:=hp2
    generalize (V7 q0).getD 0=a0 at*
    generalize (V7 q0).isSome=b0 at*
    clear hwl hwn hkl h8
    rcases h67 with rfl|rfl
    all_goals
     cases p
     all_goals
      simp only[reduceIte,Bool.false_eq_true] at hb0 ⊢
      refine y6 rfl rfl (fun _ _=>rfl) (Nat.le_of_ble_eq_true rfl) (g9 w) G0 rfl fun C hC h0=>?_
      repeat' (first|(simp (disch:=first|omega|exact bd (by with_unfolding_all rfl)|(simp only[j4]<;>omega)) only[WA,Nat.reduceEqDiff,Nat.reduceLT,Int.reduceEq,↓reduceIte,reduceCtorEq,List.replicate,ZX,h1e,hsz,hs2,h2e,hb0,hs1])|(apply y8<;>intro _))
      all_goals try (exfalso;omega)
      all_goals refine a6 (by rw[hC];exact hnu.flat rfl rfl) ?_
      all_goals repeat' (first|(simp (disch:=first|exact bd (by with_unfolding_all rfl)|fail) only[WA,Nat.reduceEqDiff,Nat.reduceLT,↓reduceIte,reduceCtorEq,hb1]))
      all_goals refine a6 (by rw[hC];exact hki.flat rfl rfl) ?_
      all_goals repeat' (first|(simp (disch:=first|omega|exact bd (by with_unfolding_all rfl)|(simp only[j4]<;>omega)) only[WA,Nat.reduceEqDiff,Nat.reduceLT,↓reduceIte,reduceCtorEq,hsz,hs3]))
      all_goals try (exfalso;omega)
      all_goals refine k9 (by rw[hC];exact hct) rfl rfl (fun _=>rfl) ?_
      all_goals repeat' (first|(simp (disch:=first|omega|exact bd (by with_unfolding_all rfl)|fail) only[WA,Nat.reduceEqDiff,Nat.reduceLT,↓reduceIte,AT,dl0,List.length_cons,List.map_cons,hp2]))
      all_goals try (exfalso;omega)
      all_goals refine a6 (by rw[hC];exact hn0.flat rfl rfl) ?_
      all_goals repeat' (first|(simp (disch:=first|exact bd (by with_unfolding_all rfl)|(simp only[j4]<;>omega)) only[WA,Nat.reduceEqDiff,Nat.reduceLT,Nat.reduceAdd,↓reduceIte,O4]))
      all_goals exact R5 (s:=0) (n:=1) (X4 _ _ _ _ _ _ _ _ rfl) rfl (.inl (by decide)) h0 rfl
  ·rw[if_neg h67]
   have h6:¬ k=6:=fun h=>h67 (.inl h)
   have h7:¬ k=7:=fun h=>h67 (.inr h)
   have h6i:¬ ((k:Nat):Int)=6:=by omega
   have h7i:¬ ((k:Nat):Int)=7:=by omega
   have h8i:¬ ((k:Nat):Int)=8:=by omega
   generalize (V7 q0).getD 0=a0 at*
   generalize (V7 q0).isSome=b0 at*
   clear hwl hwn hkl h8 h67
   obtain ⟨B,hB⟩:∃ B:Bool,decide (k ≠ 0∧(q0::qt).length=1)=B:=⟨_,rfl⟩
   have hB1:(B=true↔¬ ((k:Nat):Int)=0∧qt.length+1=1):=by
    rw[← hB,decide_eq_true_iff]
    simp only[List.length_cons]
    omega
   have hbb:(B && b0)=if B=true then b0 else false:=by cases B<;>rfl
   rw[hB,hbb]
   clear hB hbb
   have hcase:(B=true∧¬ ((k:Nat):Int)=0∧qt.length+1=1)∨(B=false∧k=0)∨(B=false∧¬ ((k:Nat):Int)=0∧¬ qt.length+1=1):=by
    cases B with
    |true=>exact .inl ⟨rfl,hB1.1 rfl⟩
    |false=>
     by_cases e:k=0
     ·exact .inr (.inl ⟨rfl,e⟩)
     ·refine .inr (.inr ⟨rfl,by omega,fun e2=>?_⟩)
      have:=hB1.2 ⟨by omega,e2⟩
      cases this
   clear hB1
   rcases hcase with ⟨rfl,hk0,hq1⟩|⟨rfl,rfl⟩|⟨rfl,hk0,hq1⟩
   all_goals
    cases p
    all_goals
     simp only[reduceIte,Bool.false_eq_true] at hb0 ⊢
     refine y6 rfl rfl (fun _ _=>rfl) (Nat.le_of_ble_eq_true rfl) (g9 w) G0 rfl fun C hC h0=>?_
     repeat' (first|(simp (disch:=first|omega|exact bd (by with_unfolding_all rfl)|(simp only[j4]<;>omega)) only[WA,Nat.reduceEqDiff,Nat.reduceLT,Int.reduceEq,↓reduceIte,reduceCtorEq,List.replicate,ZX,h1e,hsz,hs2,h2e,hb0,hs1])|(apply y8<;>intro _))
     all_goals try (exfalso;omega)
     all_goals refine a6 (by rw[hC];exact hnu.flat rfl rfl) ?_
     all_goals repeat' (first|(simp (disch:=first|exact bd (by with_unfolding_all rfl)|fail) only[WA,Nat.reduceEqDiff,Nat.reduceLT,↓reduceIte,reduceCtorEq,hb1]))
     all_goals refine a6 (by rw[hC];exact hki.flat rfl rfl) ?_
     all_goals repeat' (first|(simp (disch:=first|exact bd (by with_unfolding_all rfl)|(simp only[j4]<;>omega)) only[WA,Nat.reduceEqDiff,Nat.reduceLT,↓reduceIte,reduceCtorEq,hsz,hs3,h6i,h7i,h8i]))
     all_goals try (exfalso;omega)
     all_goals refine k9 (by rw[hC];exact hct) rfl rfl (fun _=>rfl) ?_
     all_goals repeat' (first|(simp (disch:=first|omega|exact bd (by with_unfolding_all rfl)|fail) only[WA,Nat.reduceEqDiff,Nat.reduceLT,↓reduceIte,AT,dl0,List.length_cons,List.map_cons,h6i,h7i]))
     all_goals try (exfalso;omega)
     all_goals refine a6 (by rw[hC];exact hn0.flat rfl rfl) ?_
     all_goals repeat' (first|(simp (disch:=first|exact bd (by with_unfolding_all rfl)|(simp only[j4]<;>omega)) only[WA,Nat.reduceEqDiff,Nat.reduceLT,Nat.reduceAdd,↓reduceIte,O4]))
     all_goals exact R5 (s:=0) (n:=1) (X4 _ _ _ _ _ _ _ _ rfl) rfl (.inl (by decide)) h0 rfl
end
set_option maxHeartbeats 400000
theorem YS:∀ L:List o9,T4 (s5 L)=true
 | []=>rfl
 |x::L=>by
  have:=YS L
  have e:s5 (x::L)= [.sc (.int .u8 x.kind),.sc (.bool x.purl),.sc (.int .i64 x.a),.sc (.int .i64 x.b)]++s5 L:=by simp[s5]
  rw[e]
  simpa [T4,IS] using this
theorem iY (s:List UInt8):M5 (E2 s).1=0:=by
 unfold E2
 repeat' split
 all_goals first|rfl|(rename_i h;exact h.1)
theorem EO {t e n s:Nat} {z:Bool} {l:List D} {x:Value} (h:n=0↔l= []):bG [(0,.gro t e z l)] (.tup [.gr s 0 n,.sc x]):=by
 refine nB ?_ (fun o ob ho=>by rw[(dA ho).2]) (fun o ob ho=>by rw[(dA ho).1];simp[X8,eC])
 simp only[Cl,GN,and_true]
 exact ⟨t,e,z,l,rfl,h⟩
section
variable (w:World) (n:Nat)
theorem DZ (s:List UInt8) (hs:s.length≤3000) (hne:s ≠ []) (L:List o9) (hL:E2 s=(L,0)):m7 (EN w (n+4)) 67 [m9 s] (.tup [.gr 2 0 L.length,.sc (.int .i64 0)]) ⟨[(0,.gro 48 4 false (s5 L))],1,0⟩:=by
 have hsz:=p6 s
 have hnt:((⟨s.toArray⟩:ByteArray)=⟨#[]⟩)=(s= []):=aF s []
 obtain ⟨hr,hall,hwr⟩:mW (n5 32 s) []=some L∧M5 L=0∧eG L=s:=by
  unfold E2 at hL
  rw[if_neg (by omega),if_neg hne] at hL
  cases hr:mW (n5 32 s) [] with
  |none=>rw[hr] at hL;cases hL
  |some M=>
   rw[hr] at hL
   simp only at hL
   by_cases h:M5 M=0∧eG M=s
   ·rw[if_pos h] at hL
    cases hL
    exact ⟨rfl,h⟩
   ·rw[if_neg h] at hL;cases hL
 have hsp:=aK4 w (n+2) s 32 (by omega)
 have hwl:=(Go.Itp.words_len (c:=32) s.length (s:=s) (Nat.le_refl _))
 generalize n5 32 s=q at*
 clear hL
 refine y6 rfl rfl (fun _ _=>rfl) (Nat.le_of_ble_eq_true rfl) (g9 w) (EO (by
  have:=z6 L
  constructor
  ·intro h;exact List.length_eq_zero_iff.1 (by omega)
  ·intro h;rw[h] at this;simp at this;omega)) rfl fun C hC h0=>?_
 have hrn:C.E.rounds=E8:=by rw[hC,l6]
 simp (disch:=first|omega|exact bd (by with_unfolding_all rfl)|fail) only[WA,Nat.reduceEqDiff,Nat.reduceLT,↓reduceIte,reduceCtorEq,c67,hsz,hnt,hne]
 all_goals try (exfalso;omega)
 refine k9 (by rw[hC];exact hsp) rfl rfl (fun _=>rfl) ?_
 repeat' (first|(simp (disch:=fail) only[WA,l8,r5,Nat.reduceEqDiff,Nat.reduceLT,Nat.reduceAdd,Nat.reduceBEq,Int.reduceAdd,Int.reduceSub,Int.reduceLT,Int.reduceLE,Int.reduceEq,Int.reduceNeg,↓reduceIte,reduceCtorEq,List.replicate])|apply v8|((first|apply F3|apply y8|apply A7|apply F4|apply E9|apply A8)<;>intro _))
 refine A0 (fun m fr st=>∃ (k:Nat) (acc:List o9),m=q.length - k∧k≤q.length∧acc.length≤200∧RV acc∧mW (q.drop k) acc=some L∧fr= [(0,m9 s),(4,.sl 2 q.length (q.map sD)),(5,.gr 2 0 acc.length),(6,.sc (.int .i64 k))]∧st=⟨[(0,.gro 48 4 false (s5 acc))],1,0⟩) q.length ?_ ⟨_,_,O7 5 48 4 rfl,0,[],by omega,Nat.zero_le _,Nat.zero_le _,(fun x hx=>by cases hx),hr,rfl,rfl⟩ ?_
 ·rw[hrn];unfold E8;omega
 rintro m fr st ⟨k,acc,rfl,hk,hal,hap,hraw,rfl,rfl⟩
 have hd:=z6 acc
 by_cases hlt:k<q.length
 ·have hqk:q.drop k=q[k]! ::q.drop (k+1):=by rw[List.drop_eq_getElem_cons hlt,getElem!_pos q k hlt]
  have hpl:=hwl.2 q[k]! (by rw[getElem!_pos q k hlt];exact List.getElem_mem hlt)
  have hwd:=bV5 w (n+1) q[k]! (by omega)
  have hwk:=VB q[k]!
  have hwlen:=aH2 q[k]!
  rw[hqk,mW] at hraw
  generalize hp:q[k]! =p at*
  generalize mA p=R at*
  obtain ⟨M,b⟩:=R
  simp only at hraw hwk hwlen hwd
  have hdL:=z6 M
  by_cases hb:b=true
  case neg=>rw[if_neg hb] at hraw;cases hraw
  rw[if_pos hb] at hraw
  subst hb
  have hsa:=aW1 acc M
  have hokL:=YS M
  have hso:∀ H:E3,R0 H 4 (.sl 3 M.length (s5 M))=some (M.length,s5 M,[]):=fun H=>zF H 4 3 M.length (s5 M) hdL
  by_cases hgt:200<(acc++M).length
  ·rw[if_pos hgt] at hraw;cases hraw
  rw[if_neg hgt] at hraw
  rw[List.length_append] at hgt
  unfold bN6 at hwd
  simp only at hwd
  generalize s5 acc=AD at*
  generalize s5 M=LD at*
  simp (disch:=first|omega|exact bd (by with_unfolding_all rfl)|fail) only[WA,Nat.reduceEqDiff,Nat.reduceLT,↓reduceIte,reduceCtorEq,aJ4,hp]
  all_goals try (exfalso;omega)
  refine k9 (by rw[hC];exact hwd) rfl rfl (fun _=>rfl) ?_
  simp (disch:=first|omega|exact bd (by with_unfolding_all rfl)|fail) only[WA,Nat.reduceEqDiff,Nat.reduceLT,Nat.reduceAdd,↓reduceIte,reduceCtorEq,hso,hokL,S1]
  all_goals try (exfalso;omega)
  refine ⟨q.length - (k+1),_,_,by omega,u6 [(1,0)] 1 h0 rfl rfl rfl rfl,k+1,acc++M,rfl,by omega,by rw[List.length_append];omega,fun x hx=>?_,hraw,by rw[List.length_append];rfl,by rw[hsa];rfl⟩
  rcases List.mem_append.1 hx with hx|hx
  ·exact hap x hx
  ·exact hwk x hx
 ·have:k=q.length:=by omega
  subst this
  rw[List.drop_length,mW] at hraw
  obtain rfl:=Option.some.inj hraw
  have ha:=bS5 w n 2 acc (by omega) hap
  rw[hall] at ha
  have hwr1:=aH5 w n 2 acc hal (O0 hall).2.1
  rw[hwr] at hwr1
  have h1:∀ st:l9,f7 st.own 0=some (.gro 48 4 false (s5 acc))→J6 st.own [.gr 2 0 acc.length]=some [.sl 2 acc.length (s5 acc)]:=fun st h=>FC (cD h hd)
  simp (disch:=first|omega|exact bd (by with_unfolding_all rfl)|fail) only[WA,Nat.reduceEqDiff,Nat.reduceLT,↓reduceIte,reduceCtorEq,aJ4]
  all_goals try (exfalso;omega)
  refine a6 (by rw[hC];exact ha.flat rfl (h1 _ rfl)) ?_
  simp (disch:=first|exact bd (by with_unfolding_all rfl)|fail) only[WA,Nat.reduceEqDiff,Nat.reduceLT,↓reduceIte,reduceCtorEq]
  refine a6 (by rw[hC];exact hwr1.flat rfl (h1 _ rfl)) ?_
  simp (disch:=first|exact bd (by with_unfolding_all rfl)|fail) only[WA,Nat.reduceEqDiff,Nat.reduceLT,↓reduceIte,reduceCtorEq]
  exact u6 [(0,0)] 1 h0 rfl rfl rfl rfl
end
section
variable (w:World) (n:Nat)
end
def bW:Option (o9 × Int)→V
 |none=> .tup [nF tS,.sc (.int .i64 0)]
 |some (x,m)=> .tup [nF x,.sc (.int .i64 m)]
section
variable (w:World) (n:Nat)
end
section
variable (w:World) (n:Nat)
end
abbrev bT0 (b:Bool) (s:Nat) (L:List o9):V:= .agg [.sc (.bool b),.sl s L.length (s5 L)]
theorem aO6 (b:Bool) (z:Int) (r:List UInt8):aL b z++r= [114,111,119,32]++(Lib.itoa z++([32,40]++(W0 b++([41,58,32]++r)))):=by simp[aL,aE0,lG]
theorem vD {L:List o9} (h:(y7 L).2=0):(y7 L).1.length≤2000:=by
 have h4:=(Y5 h).2
 rw[h4]
 unfold y7 at h h4
 split at h
 ·split at h
  ·exact absurd h (by decide)
  ·show (A6 L).length≤2000
   omega
 ·rename_i e
  exact absurd h e
theorem CP (b:Bool):(W0 b).length≤5:=by cases b<;>decide
section
variable (w:World) (n:Nat)
theorem aL9 (b:Bool):m7 (EN w (n+1)) 36 [.sc (.bool b)] (m9 (W0 b)) ⟨[],0,0⟩:=by
 cases b
 all_goals
  refine d6 rfl rfl (fun _ _=>rfl) (Nat.le_of_ble_eq_true rfl) (g9 w) rfl fun C hC h0=>?_
  repeat' (first|(simp (disch:=first|exact bd (by with_unfolding_all rfl)|fail) only[WA,Nat.reduceEqDiff,Nat.reduceLT,↓reduceIte,reduceCtorEq,c36]))
  exact b8 rfl h0 rfl
theorem aU7 (b:Bool) (s:Nat) (L:List o9) (z:Int) (hL:L.length≤140737488351232) (hK:RV L):m7 (EN w (n+8)) 15 [bT0 b s L,.sc (.int .i64 z)] (.tup [m9 (F6 b L z).1,.sc (.int .i64 (F6 b L z).2)]) ⟨[],0,0⟩:=by
 have ha:=JC w (n+1) s L hL hK
 have hc:=tU w n s L hL hK
 have hf:=aL9 w (n+6) b
 have hfl:=CP b
 have hcl:=vD (L:=L)
 unfold F6
 by_cases h0:M5 L=0
 case neg=>
  rw[if_neg h0]
  generalize M5 L=e at*
  refine d6 rfl rfl (fun _ _=>rfl) (Nat.le_of_ble_eq_true rfl) (g9 w) rfl fun C hC h0=>?_
  simp (disch:=first|exact bd (by with_unfolding_all rfl)|fail) only[WA,Nat.reduceEqDiff,Nat.reduceLT,↓reduceIte,reduceCtorEq,c15]
  refine a6 (by rw[hC];exact ha.flat rfl rfl) ?_
  simp (disch:=first|omega|exact bd (by with_unfolding_all rfl)|fail) only[WA,Nat.reduceEqDiff,Nat.reduceLT,↓reduceIte]
  all_goals try (exfalso;omega)
  exact b8 rfl h0 rfl
 rw[h0] at ha
 rw[if_pos h0]
 by_cases h1:z<1∨100<z
 ·rw[if_pos h1]
  refine d6 rfl rfl (fun _ _=>rfl) (Nat.le_of_ble_eq_true rfl) (g9 w) rfl fun C hC h0=>?_
  rcases h1 with h1|h1
  all_goals
   repeat' (first|(simp (disch:=first|exact bd (by with_unfolding_all rfl)|fail) only[WA,Nat.reduceEqDiff,Nat.reduceLT,↓reduceIte,reduceCtorEq,c15]))
   refine a6 (by rw[hC];exact ha.flat rfl rfl) ?_
   repeat' (first|(simp (disch:=first|omega|exact bd (by with_unfolding_all rfl)|fail) only[WA,Nat.reduceEqDiff,Nat.reduceLT,↓reduceIte]))
   all_goals try (exfalso;omega)
   exact b8 rfl h0 rfl
 rw[if_neg h1]
 by_cases h2:(y7 L).2=0
 ·rw[if_pos h2]
  have hi:=fun st=>TF w (n+6) st z (by omega) (by omega)
  have hil:=F9 (z:=z) (by omega) (by omega)
  have hcl:=hcl h2
  rw[h2] at hc
  generalize (y7 L).1=W at*
  rw[List.append_assoc,aO6]
  generalize Lib.itoa z=A at*
  generalize W0 b=F at*
  refine d6 rfl rfl (fun _ _=>rfl) (Nat.le_of_ble_eq_true rfl) (g9 w) rfl fun C hC h0=>?_
  simp (disch:=first|exact bd (by with_unfolding_all rfl)|fail) only[WA,Nat.reduceEqDiff,Nat.reduceLT,↓reduceIte,reduceCtorEq,c15]
  refine a6 (by rw[hC];exact ha.flat rfl rfl) ?_
  simp (disch:=first|omega|exact bd (by with_unfolding_all rfl)|fail) only[WA,Nat.reduceEqDiff,Nat.reduceLT,↓reduceIte]
  all_goals try (exfalso;omega)
  refine a6 (by rw[hC];exact hc.flat rfl rfl) ?_
  simp (disch:=first|exact bd (by with_unfolding_all rfl)|fail) only[WA,l8,r5,Nat.reduceEqDiff,Nat.reduceLT,Nat.reduceAdd,↓reduceIte]
  all_goals try (exfalso;omega)
  refine Q1 (by rw[hC];exact hi _) ?_
  simp (disch:=first|exact bd (by with_unfolding_all rfl)|(simp only[j4]<;>omega)) only[WA,l8,r5,Nat.reduceEqDiff,Nat.reduceLT,Nat.reduceAdd,↓reduceIte,K3,List.append_assoc]
  all_goals try (exfalso;omega)
  refine Q1 (by rw[hC];exact hf.flat rfl rfl) ?_
  simp (disch:=first|exact bd (by with_unfolding_all rfl)|(simp only[j4]<;>omega)) only[WA,l8,r5,Nat.reduceEqDiff,Nat.reduceLT,↓reduceIte,K3,List.append_assoc]
  all_goals try (exfalso;omega)
  exact b8 rfl h0 rfl
 ·rw[if_neg h2]
  generalize (y7 L).2=e at*
  generalize (y7 L).1=W at*
  refine d6 rfl rfl (fun _ _=>rfl) (Nat.le_of_ble_eq_true rfl) (g9 w) rfl fun C hC h0=>?_
  simp (disch:=first|exact bd (by with_unfolding_all rfl)|fail) only[WA,Nat.reduceEqDiff,Nat.reduceLT,↓reduceIte,reduceCtorEq,c15]
  refine a6 (by rw[hC];exact ha.flat rfl rfl) ?_
  simp (disch:=first|omega|exact bd (by with_unfolding_all rfl)|fail) only[WA,Nat.reduceEqDiff,Nat.reduceLT,↓reduceIte]
  all_goals try (exfalso;omega)
  refine a6 (by rw[hC];exact hc.flat rfl rfl) ?_
  simp (disch:=first|omega|exact bd (by with_unfolding_all rfl)|fail) only[WA,Nat.reduceEqDiff,Nat.reduceLT,↓reduceIte]
  all_goals try (exfalso;omega)
  exact b8 rfl h0 rfl
end
theorem jQ {C:C5} {st:l9} {b x y:Value} (h0:C.w0.nx=0) (hro:st.ro=0):M4 C [(0,.tup [.agg [.sc b,.sc (.slice none 0 0)],.sc x,.sc y])] st [(0,.tup [.agg [.sc b,.sl 3 0 []],.sc x,.sc y])] ⟨[],0,0⟩:=
 (L9 (t:=0) (v:= .tup [.agg [.sc b,.sc (.slice none 0 0)],.sc x,.sc y]) (v':= .tup [.agg [.sc b,.sl 3 0 []],.sc x,.sc y]) rfl (yU (.cons (yT (.cons (.refl _) (.cons kV .nil))) (.cons (.refl _) (.cons (.refl _) .nil))))).trans (u6 [] 0 h0 hro rfl rfl rfl)
theorem EM {b x y:Value} {n:Nat} {l:List D}:bG [] (.tup [.agg [.sc b,.sl 3 n l],.sc x,.sc y]):=dW (by simp only[Cl,GN,and_true];exact ⟨trivial,rfl⟩)
def OL:Option (Bool × List o9 × Int)→V
 |none=> .tup [bT0 false 3 [],.sc (.int .i64 0),.sc (.int .i64 12)]
 |some (b,L,m)=> .tup [bT0 b 3 L,.sc (.int .i64 m),.sc (.int .i64 0)]
theorem xX (s:List UInt8):M5 (F5 s).1=0:=by
 unfold F5
 cases h:Y4 s with
 |none=>rfl
 |some L=>
  have h1:=pD h
  by_cases e:M5 L=0
  ·exact e
  ·unfold y7 at h1
   rw[if_neg e] at h1
   exact absurd (congrArg Prod.snd h1) e
theorem jS {L:List o9} (h:M5 L=0):RV L:=fun x hx=>by
 have:=(D4.1 (List.all_eq_true.1 (O0 h).2.1 x hx)).bounds
 omega
abbrev bS9 (x y:V):Go.Itp.Obj:= .box 36 1 [x,y]
abbrev YP:Go.Itp.Obj:=bS9 (.sc (.bool false)) (.sc (.slice none 0 0))
section
variable (w:World) (n:Nat)
theorem UC {C:C5} (hC:C.E=EN w (n+9)) (s c:List UInt8) (hs:s.length≤100000) (hc:c.length≤100000) (v:Int) (b:Bool) (j:Int) (hj:(j=0∧b=false)∨(j=1∧b=true)) {P:B5}
  (hgo:lD b v c s=none→∀ st,(st=⟨[(0,YP)],1,0⟩∨∃ x y,st=⟨[(1,bS9 x y),(0,YP)],2,0⟩)→P .normal [(0,m9 s),(2,.ptr 0 0),(5,.sl 3 1 [iD v]),(8,m9 c),(37,.agg [.sc (.bool false),.sc (.bool true)]),(38,.sc (.int .i64 (j+1)))] st)
  (hret:∀ fr st L,lD b v c s=some (b,L,v)→f7 fr 2=some (.ptr 0 0)→f7 fr 3=some (.sc (.int .i64 v))→f7 fr 4=some (.sc (.int .i64 0))→f7 st.own 0=some (bS9 (.sc (.bool b)) (.sl 3 L.length (s5 L)))→st.ro=0→P .ret fr st):
  gC C sE [] [(0,m9 s),(2,.ptr 0 0),(5,.sl 3 1 [iD v]),(8,m9 c),(37,.agg [.sc (.bool false),.sc (.bool true)]),(38,.sc (.int .i64 j))] ⟨[(0,YP)],1,0⟩ P:=by
 have hix:wO 2 1 none (.agg [.sc (.bool false),.sc (.bool true)]) (.sc (.int .i64 j))=some (.sc (.bool b)):=by rcases hj with ⟨rfl,rfl⟩|⟨rfl,rfl⟩<;>rfl
 have hjb:0≤j∧j≤1:=by omega
 clear hj
 have hf:=aL9 w (n+8) b
 have hfl:=CP b
 have hcp:=vL w (n+6) c (W0 b++ [41,58,32]) (by omega)
 have htry:lD b v c s=match x8 (W0 b++ [41,58,32]) c with
  |none=>none
  |some t=>if (F5 t).2=0∧F6 b (F5 t).1 v=(s,0) then some (b,(F5 t).1,v) else none:=rfl
 rw[htry] at hgo hret
 cases hcc:x8 (W0 b++ [41,58,32]) c with
 |none=>
  rw[hcc] at hcp hgo
  clear hret htry hcc
  have hgo:=hgo rfl _ (.inl rfl)
  generalize W0 b=F at*
  simp (disch:=first|omega|exact bd (by with_unfolding_all rfl)|fail) only[WA,Nat.reduceEqDiff,Nat.reduceLT,↓reduceIte,reduceCtorEq,sE,hix]
  refine a6 (by rw[hC];exact hf.flat rfl rfl) ?_
  simp (disch:=first|exact bd (by with_unfolding_all rfl)|(simp only[j4]<;>omega)) only[WA,Nat.reduceEqDiff,Nat.reduceLT,↓reduceIte,reduceCtorEq,K3]
  all_goals try (exfalso;omega)
  refine a6 (by rw[hC];exact hcp.flat rfl rfl) ?_
  simp (disch:=first|omega|exact bd (by with_unfolding_all rfl)|fail) only[WA,Nat.reduceEqDiff,Nat.reduceLT,↓reduceIte,reduceCtorEq,Option.isSome_none,Option.getD_none]
  exact hgo
 |some t=>
  have hle:=aW hcc
  have htl:t.length≤c.length:=by rw[hle.2,List.length_drop];omega
  rw[hcc] at hcp hgo hret
  clear hle hcc htry
  have ha:=xX t
  have hpc:=jA w n t (by omega)
  have hrw:=aU7 w (n+1) b 3 (F5 t).1 v (by have:=(O0 ha).1;omega) (jS ha)
  clear ha
  simp only at hgo hret
  generalize F5 t=q at*
  obtain ⟨L,e⟩:=q
  simp only at hgo hret hpc hrw
  have hd:=z6 L
  have hmj:((⟨(F6 b L v).1.toArray⟩:ByteArray)=⟨s.toArray⟩)=((F6 b L v).1=s):=aF _ _
  generalize W0 b=F at*
  by_cases he:e=0∧F6 b L v=(s,0)
  ·rw[if_pos he] at hret
   obtain ⟨rfl,h2⟩:=he
   rw[h2] at hrw
   have hret:=fun fr st=>hret fr st L rfl
   clear hgo hmj h2
   simp (disch:=first|omega|exact bd (by with_unfolding_all rfl)|fail) only[WA,Nat.reduceEqDiff,Nat.reduceLT,↓reduceIte,reduceCtorEq,sE,hix]
   refine a6 (by rw[hC];exact hf.flat rfl rfl) ?_
   simp (disch:=first|exact bd (by with_unfolding_all rfl)|(simp only[j4]<;>omega)) only[WA,Nat.reduceEqDiff,Nat.reduceLT,↓reduceIte,reduceCtorEq,K3]
   all_goals try (exfalso;omega)
   refine a6 (by rw[hC];exact hcp.flat rfl rfl) ?_
   simp (disch:=first|exact bd (by with_unfolding_all rfl)|fail) only[WA,Nat.reduceEqDiff,Nat.reduceLT,↓reduceIte,reduceCtorEq,Option.isSome_some,Option.getD_some]
   refine k9 (by rw[hC];exact hpc) rfl rfl (fun _=>rfl) ?_
   simp (disch:=first|omega|exact bd (by with_unfolding_all rfl)|(simp only[j4]<;>omega)) only[WA,l8,r5,Nat.reduceEqDiff,Nat.reduceLT,Nat.reduceAdd,↓reduceIte,reduceCtorEq,List.replicate,AT,dl1]
   refine Q1 (by rw[hC];exact hrw.flat rfl rfl) ?_
   repeat' (first|(simp (disch:=first|omega|exact bd (by with_unfolding_all rfl)|(simp only[j4]<;>omega)) only[WA,l8,r5,Nat.reduceEqDiff,Nat.reduceLT,↓reduceIte,reduceCtorEq,AT,dl1,aF6,SQ,bC3])|apply v8)
   exact hret _ _ rfl rfl rfl rfl rfl
  ·have hg:=fun x y=>hgo (if_neg he) _ (.inr ⟨x,y,rfl⟩)
   clear hgo hret
   have he:¬ (e=0∧(F6 b L v).2=0∧(F6 b L v).1=s):=fun h=>he ⟨h.1,Prod.ext h.2.2 h.2.1⟩
   generalize F6 b L v=r at*
   obtain ⟨T,g⟩:=r
   simp only at he hrw hmj
   by_cases h1:e=0
   ·by_cases h2:g=0
    ·have h3:¬ T=s:=fun h=>he ⟨h1,h2,h⟩
     subst h1 h2
     rw[eq_false h3] at hmj
     simp (disch:=first|omega|exact bd (by with_unfolding_all rfl)|fail) only[WA,Nat.reduceEqDiff,Nat.reduceLT,↓reduceIte,reduceCtorEq,sE,hix]
     refine a6 (by rw[hC];exact hf.flat rfl rfl) ?_
     simp (disch:=first|exact bd (by with_unfolding_all rfl)|(simp only[j4]<;>omega)) only[WA,Nat.reduceEqDiff,Nat.reduceLT,↓reduceIte,reduceCtorEq,K3]
     all_goals try (exfalso;omega)
     refine a6 (by rw[hC];exact hcp.flat rfl rfl) ?_
     simp (disch:=first|exact bd (by with_unfolding_all rfl)|fail) only[WA,Nat.reduceEqDiff,Nat.reduceLT,↓reduceIte,reduceCtorEq,Option.isSome_some,Option.getD_some]
     refine k9 (by rw[hC];exact hpc) rfl rfl (fun _=>rfl) ?_
     simp (disch:=first|omega|exact bd (by with_unfolding_all rfl)|(simp only[j4]<;>omega)) only[WA,l8,r5,Nat.reduceEqDiff,Nat.reduceLT,Nat.reduceAdd,↓reduceIte,reduceCtorEq,List.replicate,AT,dl1]
     refine Q1 (by rw[hC];exact hrw.flat rfl rfl) ?_
     simp (disch:=first|omega|exact bd (by with_unfolding_all rfl)|(simp only[j4]<;>omega)) only[WA,l8,r5,Nat.reduceEqDiff,Nat.reduceLT,↓reduceIte,reduceCtorEq,hmj]
     exact hg _ _
    ·subst h1
     simp (disch:=first|omega|exact bd (by with_unfolding_all rfl)|fail) only[WA,Nat.reduceEqDiff,Nat.reduceLT,↓reduceIte,reduceCtorEq,sE,hix]
     refine a6 (by rw[hC];exact hf.flat rfl rfl) ?_
     simp (disch:=first|exact bd (by with_unfolding_all rfl)|(simp only[j4]<;>omega)) only[WA,Nat.reduceEqDiff,Nat.reduceLT,↓reduceIte,reduceCtorEq,K3]
     all_goals try (exfalso;omega)
     refine a6 (by rw[hC];exact hcp.flat rfl rfl) ?_
     simp (disch:=first|exact bd (by with_unfolding_all rfl)|fail) only[WA,Nat.reduceEqDiff,Nat.reduceLT,↓reduceIte,reduceCtorEq,Option.isSome_some,Option.getD_some]
     refine k9 (by rw[hC];exact hpc) rfl rfl (fun _=>rfl) ?_
     simp (disch:=first|omega|exact bd (by with_unfolding_all rfl)|(simp only[j4]<;>omega)) only[WA,l8,r5,Nat.reduceEqDiff,Nat.reduceLT,Nat.reduceAdd,↓reduceIte,reduceCtorEq,List.replicate,AT,dl1]
     refine Q1 (by rw[hC];exact hrw.flat rfl rfl) ?_
     simp (disch:=first|omega|exact bd (by with_unfolding_all rfl)|(simp only[j4]<;>omega)) only[WA,l8,r5,Nat.reduceEqDiff,Nat.reduceLT,↓reduceIte,reduceCtorEq,h2]
     exact hg _ _
   ·simp (disch:=first|omega|exact bd (by with_unfolding_all rfl)|fail) only[WA,Nat.reduceEqDiff,Nat.reduceLT,↓reduceIte,reduceCtorEq,sE,hix]
    refine a6 (by rw[hC];exact hf.flat rfl rfl) ?_
    simp (disch:=first|exact bd (by with_unfolding_all rfl)|(simp only[j4]<;>omega)) only[WA,Nat.reduceEqDiff,Nat.reduceLT,↓reduceIte,reduceCtorEq,K3]
    all_goals try (exfalso;omega)
    refine a6 (by rw[hC];exact hcp.flat rfl rfl) ?_
    simp (disch:=first|exact bd (by with_unfolding_all rfl)|fail) only[WA,Nat.reduceEqDiff,Nat.reduceLT,↓reduceIte,reduceCtorEq,Option.isSome_some,Option.getD_some]
    refine k9 (by rw[hC];exact hpc) rfl rfl (fun _=>rfl) ?_
    simp (disch:=first|omega|exact bd (by with_unfolding_all rfl)|(simp only[j4]<;>omega)) only[WA,l8,r5,Nat.reduceEqDiff,Nat.reduceLT,Nat.reduceAdd,↓reduceIte,reduceCtorEq,List.replicate,AT,dl1]
    refine Q1 (by rw[hC];exact hrw.flat rfl rfl) ?_
    simp (disch:=first|omega|exact bd (by with_unfolding_all rfl)|fail) only[WA,l8,r5,Nat.reduceEqDiff,Nat.reduceLT,↓reduceIte,reduceCtorEq,h1]
    exact hg _ _
theorem aS1 (s:List UInt8) (hs:s.length≤100000):m7 (EN w (n+10)) 17 [m9 s] (OL (gJ s)) ⟨[],0,0⟩:=by
 have hm:=IJ w (n+2) s [114,111,119,32,35,32,40] hs (by decide)
 rw[show n5 35 ([114,111,119,32,35,32,40]:List UInt8)= [JB,xW] from by decide+kernel] at hm
 have hlen:=fun m r (h:B8 [JB,xW] s=some (m,r))=>mU (f:= [JB,xW]) (by simp) h
 rw[← bF4]
 have hok:bG [] (OL (BD s)):=by
  rcases BD s with _|⟨a,b,c⟩
  ·exact EM
  ·exact EM
 have hun:BD s=match B8 [JB,xW] s with
  |none=>none
  |some (m,r)=>match J4 [46] r with
   |none=>none
   |some c=>match lD false (m.headD 0) c s with
    |some x=>some x
    |none=>lD true (m.headD 0) c s:=rfl
 generalize BD s=R at*
 cases hM:B8 [JB,xW] s with
 |none=>
  rw[hM] at hm hun
  have hcs:=vN w (n+6) [] [46] (by decide)
  rw[show J4 [46] ([]:List UInt8)=none from rfl] at hcs
  unfold iV at hm
  simp only at hun
  subst hun
  refine y6 rfl rfl (fun _ _=>rfl) (Nat.le_of_ble_eq_true rfl) (g9 w) hok rfl fun C hC h0=>?_
  simp (disch:=first|exact bd (by with_unfolding_all rfl)|fail) only[WA,Nat.reduceEqDiff,Nat.reduceLT,↓reduceIte,reduceCtorEq,List.replicate,c17]
  refine k9 (by rw[hC];exact hm) rfl rfl (fun _=>rfl) ?_
  simp (disch:=first|exact bd (by with_unfolding_all rfl)|fail) only[WA,Nat.reduceEqDiff,Nat.reduceLT,↓reduceIte,reduceCtorEq]
  refine a6 (by rw[hC];exact hcs.flat rfl rfl) ?_
  simp (disch:=first|omega|exact bd (by with_unfolding_all rfl)|(simp only[j4]<;>omega)) only[WA,Nat.reduceEqDiff,Nat.reduceLT,↓reduceIte,reduceCtorEq,Option.isSome_none,Option.getD_none]
  exact jQ h0 rfl
 |some mr=>
  obtain ⟨m,r⟩:=mr
  have hl:=hlen m r hM
  rw[hM] at hm hun
  unfold iV at hm
  simp only at hun
  clear hlen hM
  obtain ⟨v,rfl⟩:∃ v,m= [v]:=by
   cases m with
   |nil=>simp at hl
   |cons a q=>cases q with
    |nil=>exact ⟨a,rfl⟩
    |cons b c=>simp at hl
  have hcs:=vN w (n+6) r [46] (by omega)
  cases hc:J4 [46] r with
  |none=>
   rw[hc] at hcs hun
   simp only at hun
   subst hun
   refine y6 rfl rfl (fun _ _=>rfl) (Nat.le_of_ble_eq_true rfl) (g9 w) hok rfl fun C hC h0=>?_
   simp (disch:=first|exact bd (by with_unfolding_all rfl)|fail) only[WA,Nat.reduceEqDiff,Nat.reduceLT,↓reduceIte,reduceCtorEq,List.replicate,c17]
   refine k9 (by rw[hC];exact hm) rfl rfl (fun _=>rfl) ?_
   simp (disch:=first|exact bd (by with_unfolding_all rfl)|fail) only[WA,Nat.reduceEqDiff,Nat.reduceLT,↓reduceIte,reduceCtorEq]
   refine a6 (by rw[hC];exact hcs.flat rfl rfl) ?_
   simp (disch:=first|omega|exact bd (by with_unfolding_all rfl)|(simp only[j4]<;>omega)) only[WA,Nat.reduceEqDiff,Nat.reduceLT,↓reduceIte,reduceCtorEq,Option.isSome_none,Option.getD_none]
   exact jQ h0 rfl
  |some c=>
   have hcl:c.length≤r.length:=by
    have:=qF hc
    rw[this.2,List.length_take]
    omega
   rw[hc] at hcs hun
   simp only[List.headD_cons] at hun
   refine y6 rfl rfl (fun _ _=>rfl) (Nat.le_of_ble_eq_true rfl) (g9 w) hok rfl fun C hC h0=>?_
   have hrn:C.E.rounds=E8:=by rw[hC,l6]
   simp (disch:=first|exact bd (by with_unfolding_all rfl)|fail) only[WA,Nat.reduceEqDiff,Nat.reduceLT,↓reduceIte,reduceCtorEq,List.replicate,c17]
   refine k9 (by rw[hC];exact hm) rfl rfl (fun _=>rfl) ?_
   simp (disch:=first|exact bd (by with_unfolding_all rfl)|fail) only[WA,Nat.reduceEqDiff,Nat.reduceLT,↓reduceIte,reduceCtorEq]
   refine a6 (by rw[hC];exact hcs.flat rfl rfl) ?_
   simp (disch:=first|exact bd (by with_unfolding_all rfl)|(simp only[j4]<;>omega)) only[WA,Nat.reduceEqDiff,Nat.reduceLT,↓reduceIte,reduceCtorEq,Option.isSome_some,Option.getD_some,List.map_cons,List.map_nil,List.length_cons,List.length_nil]
   have hround:=fun b j hj P=>UC w n hC s c hs (by omega) v b j hj (P:=P)
   refine A0 (fun m fr st=>∃ j:Int,(j=0∧m=2∨j=1∧m=1∧lD false v c s=none∨j=2∧m=0∧lD false v c s=none∧lD true v c s=none)∧fr= [(0,m9 s),(2,.ptr 0 0),(5,.sl 3 1 [iD v]),(8,m9 c),(37,.agg [.sc (.bool false),.sc (.bool true)]),(38,.sc (.int .i64 j))]∧st=⟨[(0,YP)],1,0⟩) 2 ?_ ⟨_,_,.refl _ _,0,.inl ⟨rfl,rfl⟩,rfl,rfl⟩ ?_
   ·rw[hrn];unfold E8;omega
   rintro m fr st ⟨j,hj,rfl,rfl⟩
   rcases hj with ⟨rfl,rfl⟩|⟨rfl,rfl,h1⟩|⟨rfl,rfl,h1,h2⟩
   ·refine hround false 0 (.inl ⟨rfl,rfl⟩) _ (fun hn st hst=>?_) (fun fr st L hc e2 e3 e4 e5 e6=>?_)
    ·rcases hst with rfl|⟨x,y,rfl⟩
     all_goals
      repeat' (first|(simp (disch:=fail) only[WA,Int.reduceAdd]))
      exact ⟨1,_,_,by omega,u6 [(0,0)] 1 h0 rfl rfl rfl rfl,1,.inr (.inl ⟨rfl,rfl,hn⟩),rfl,rfl⟩
    ·rw[hc] at hun
     simp only at hun
     subst hun
     simp (disch:=fail) only[WA,e2,e3,e4,e5]
     exact u6 [] 0 h0 e6 rfl rfl rfl
   ·refine hround true 1 (.inr ⟨rfl,rfl⟩) _ (fun hn st hst=>?_) (fun fr st L hc e2 e3 e4 e5 e6=>?_)
    ·rcases hst with rfl|⟨x,y,rfl⟩
     all_goals
      repeat' (first|(simp (disch:=fail) only[WA,Int.reduceAdd]))
      exact ⟨0,_,_,by omega,u6 [(0,0)] 1 h0 rfl rfl rfl rfl,2,.inr (.inr ⟨rfl,rfl,h1,hn⟩),rfl,rfl⟩
    ·rw[h1,hc] at hun
     simp only at hun
     subst hun
     simp (disch:=fail) only[WA,e2,e3,e4,e5]
     exact u6 [] 0 h0 e6 rfl rfl rfl
   ·rw[h1,h2] at hun
    simp only at hun
    subst hun
    simp (disch:=first|omega|exact bd (by with_unfolding_all rfl)|(simp only[j4]<;>omega)) only[WA,Nat.reduceEqDiff,Nat.reduceLT,Int.reduceLT,↓reduceIte,reduceCtorEq,sE]
    exact jQ h0 rfl
end
section
variable (w:World) (n:Nat)
end
set_option maxHeartbeats 1000000
section
variable (w:World) (n:Nat)
def YQ (b:Nat) (p:V):Prop:=p= .sc (.pointer none)∨p= .ptr b 0
theorem LE {C:C5} {st:l9} {Q:V→l9→Prop} (hC:C.E=EN w (n+2)) (b e:Nat) (p g:V) (hb:f7 st.own b=some (.box 83 e [p,g])) (hp:YQ b p) (hro:st.ro≤b)
  (hq:Q (.tup []) ⟨A2 st.own b (.box 83 e [.ptr b 0,g]),st.next,st.ro⟩):V9 C 68 [.ptr b 0] st Q:=by
 refine HD hC rfl rfl (fun _ _=>rfl) (Nat.le_of_ble_eq_true rfl) hq fun C' hC' hn=>?_
 obtain ⟨H,nx,ro⟩:=st
 have h2:(2:Nat)≤ [p,g].length:=Nat.le_refl _
 rcases hp with rfl|rfl
 ·simp (disch:=first|omega|exact bd (by with_unfolding_all rfl)|fail) only[WA,Nat.reduceEqDiff,Nat.reduceLT,↓reduceIte,reduceCtorEq,c68,hb,mM,vU]
  refine SF hC' (fun x s=>?_) ?_
  ·show PR w _ [x] s=some (x,[])
   rfl
  simp (disch:=first|omega|exact bd (by with_unfolding_all rfl)|fail) only[WA,Nat.reduceEqDiff,Nat.reduceLT,↓reduceIte,reduceCtorEq,hb,mM]
  exact .refl _ _
 ·have hs:A2 H b (.box 83 e [.ptr b 0,g])=H:=BO _ _ _ hb
  simp (disch:=first|omega|exact bd (by with_unfolding_all rfl)|fail) only[WA,Nat.reduceEqDiff,Nat.reduceLT,↓reduceIte,reduceCtorEq,c68,hb,LU,mM,vU]
  rw[hs]
  exact .refl _ _
theorem BI {C:C5} {st:l9} {Q:V→l9→Prop} (hC:C.E=EN w (n+3)) (b r:Nat) (p:V) (acc s:ByteArray) (hb:f7 st.own b=some (.box 83 1 [p,.gr 2 r acc.size])) (hr:f7 st.own r=some (.gro 5 1 false (dY acc))) (hp:YQ b p) (hro:st.ro≤b) (hro2:st.ro≤r) (hrb:r ≠ b) (hlt:b ≠ st.next)
  (hsz:acc.size+s.size≤1099511627776) (hq:Q (.tup [.sc (.int .i64 s.size),.sc .nilIface]) ⟨(st.next,.gro 5 1 false (dY (acc++s)))::A2 (I3 r st.own) b (.box 83 1 [.ptr b 0,.gr 2 st.next (acc.size+s.size)]),st.next+1,st.ro⟩):
  V9 C 44 [.ptr b 0,.sc (.string s)] st Q:=by
 refine HD hC rfl rfl (fun _ _=>rfl) (Nat.le_of_ble_eq_true rfl) hq fun C' hC' hn=>?_
 obtain ⟨H,nx,ro⟩:=st
 have h1:=zL acc
 have h2:=bH2 s
 have a1:f7 (A2 H b (.box 83 1 [.ptr b 0,.gr 2 r acc.size])) b=some (.box 83 1 [.ptr b 0,.gr 2 r acc.size]):=eJ hb
 have a2:f7 (A2 H b (.box 83 1 [.ptr b 0,.gr 2 r acc.size])) r=some (.gro 5 1 false (dY acc)):=by rw[N9 _ _ _ _ _ hb,if_neg hrb];exact hr
 have hbr:¬ b=r:=fun e=>hrb e.symm
 have a3:f7 (I3 r (A2 H b (.box 83 1 [.ptr b 0,.gr 2 r acc.size]))) b=some (.box 83 1 [.ptr b 0,.gr 2 r acc.size]):=by rw[H2,if_neg hbr];exact a1
 simp (disch:=first|exact bd (by with_unfolding_all rfl)|fail) only[WA,Nat.reduceEqDiff,Nat.reduceLT,↓reduceIte,reduceCtorEq,c44]
 refine LE w n hC' b 1 p _ hb hp hro ?_
 simp (disch:=first|omega|exact bd (by with_unfolding_all rfl)|(simp only[j4]<;>omega)) only[WA,Nat.reduceEqDiff,Nat.reduceLT,↓reduceIte,reduceCtorEq,a1,a2,a3,rQ,bH1,hbr,hlt,QE,S1]
 rw[pY _ _ _ _ hrb,jZ]
 exact .refl _ _
theorem aW3 {C:C5} {st:l9} {Q:V→l9→Prop} (hC:C.E=EN w (n+1)) (b r:Nat) (p:V) (acc:ByteArray) (hb:f7 st.own b=some (.box 83 1 [p,.gr 2 r acc.size])) (hr:f7 st.own r=some (.gro 5 1 false (dY acc))) (hro:st.ro≤b) (hro2:st.ro≤r)
  (hsz:acc.size≤1099511627776) (hq:∀ st',st'.ro=st.ro→Q (.sc (.string acc)) st'):V9 C 46 [.ptr b 0] st Q:=by
 obtain ⟨H,nx,ro⟩:=st
 by_cases h0:acc.size=0
 ·rw[h0] at hb
  have hs:acc=ByteArray.empty:=by
   apply ByteArray.ext;apply Array.ext'
   rw[List.eq_nil_of_length_eq_zero (show acc.data.toList.length=0 by simpa using h0)]
   rfl
  refine aJ6 (st':=⟨A2 H b (.box 83 1 [p,.sc (.slice none 0 0)]),nx,ro⟩) hC rfl rfl (fun _ _=>rfl) (Nat.le_of_ble_eq_true rfl) (hq ⟨A2 H b (.box 83 1 [p,.sc (.slice none 0 0)]),nx,ro⟩ rfl) (fun C' hn=>?_) fun C' hC' hn=>?_
  ·exact GH (C:=C') (st:=⟨H,nx,ro⟩) (k:=1) hb rfl aV3
  have a1:f7 (A2 H b (.box 83 1 [p,.sc (.slice none 0 0)])) b=some (.box 83 1 [p,.sc (.slice none 0 0)]):=eJ hb
  rw[hs]
  simp (disch:=first|exact bd (by with_unfolding_all rfl)|fail) only[WA,l8,r5,Nat.reduceEqDiff,Nat.reduceLT,↓reduceIte,reduceCtorEq,c46,a1,aG6]
  exact .refl _ _
 ·refine HD hC rfl rfl (fun _ _=>rfl) (Nat.le_of_ble_eq_true rfl) (hq ⟨I3 r H,nx,ro⟩ rfl) fun C' hC' hn=>?_
  have hv:=aG5 ⟨H,nx,ro⟩ 5 1 r acc hr hro2 (by omega) hsz
  simp (disch:=first|omega|exact bd (by with_unfolding_all rfl)|fail) only[WA,l8,r5,Nat.reduceEqDiff,Nat.reduceLT,↓reduceIte,reduceCtorEq,c46,hb,h0,hv]
  exact .refl _ _
theorem aZ7 {C:C5} {st:l9} {Q:V→l9→Prop} (hC:C.E=EN w (n+3)) (b r:Nat) (p:V) (l x:List UInt8) (hb:f7 st.own b=some (.box 83 1 [p,.gr 2 r l.length])) (hr:f7 st.own r=some (.gro 5 1 false (dY ⟨l.toArray⟩))) (hp:YQ b p) (hro:st.ro≤b) (hro2:st.ro≤r) (hrb:r ≠ b) (hlt:b ≠ st.next)
  (hsz:l.length+x.length≤1099511627776) (hq:Q (.tup [.sc (.int .i64 x.length),.sc .nilIface]) ⟨(st.next,.gro 5 1 false (dY ⟨(l++x).toArray⟩))::A2 (I3 r st.own) b (.box 83 1 [.ptr b 0,.gr 2 st.next (l.length+x.length)]),st.next+1,st.ro⟩):
  V9 C 44 [.ptr b 0,m9 x] st Q:=by
 have h1:=p6 l
 have h2:=p6 x
 have h3:(ByteArray.mk l.toArray)++(ByteArray.mk x.toArray)=⟨(l++x).toArray⟩:=by
  apply ByteArray.ext;apply Array.ext'
  rw[ByteArray.data_append,Array.toList_append]
 refine BI w n hC b r p ⟨l.toArray⟩ ⟨x.toArray⟩ (by rw[h1];exact hb) hr hp hro hro2 hrb hlt (by rw[h1,h2];exact hsz) ?_
 rw[h1,h2,h3]
 exact hq
theorem bO4 (st:l9) (b e r m:Nat) (p:V) (hb:f7 st.own b=some (.box 83 e [p,.gr 2 r m])) (hm:m≤1000000):H4 (EN w (n+1)) 45 st [.ptr b 0] (.sc (.int .i64 m)):=by
 refine aY9 rfl rfl (fun _ _=>rfl) (Nat.le_of_ble_eq_true rfl) rfl fun C hC h0=>⟨⟨st.own,st.next,st.next⟩,?_⟩
 simp (disch:=first|exact bd (by with_unfolding_all rfl)|fail) only[WA,Nat.reduceEqDiff,Nat.reduceLT,↓reduceIte,reduceCtorEq,c45,hb]
 exact .refl _ _
end
set_option maxHeartbeats 400000
def aU4 (k:Nat) (r:Bool × List o9):List D:= [.sc (.bool r.1),.sl k r.2.length (s5 r.2)]
def W1 (k:Nat) (R:List (Bool × List o9)):List D:=R.flatMap (aU4 k)
theorem rK (k:Nat) (R:List (Bool × List o9)):(W1 k R).length=R.length*2:=by
 induction R with
 |nil=>rfl
 |cons r R ih=>
  have e:W1 k (r::R)=aU4 k r++W1 k R:=by simp[W1]
  rw[e,List.length_append,ih]
  simp only[aU4,List.length_cons,List.length_nil]
  omega
theorem ET (k:Nat) (R:List (Bool × List o9)) (j:Nat) (hj:j<R.length):E4 (W1 k R) (j*2) (some 2)=some (.agg [.sc (.bool R[j]!.1),.sl k R[j]!.2.length (s5 R[j]!.2)]):=vQ (aU4 k) 2 R (fun _=>rfl) (by decide) j hj
abbrev HE (s k:Nat) (c:GM):V:= .agg [.sc (.int .i64 c.1),.sl s c.2.length (W1 k c.2)]
def bN8 (R:List (Bool × List o9)):Prop:=∀ r ∈ R,RV r.2∧r.2.length≤140737488351232
def U2 (acc:List UInt8) (n:Int) (R:List (Bool × List o9)):List UInt8 × Int:=if (A5 n R).2=0 then (acc++(A5 n R).1,0) else ([],(A5 n R).2)
theorem TJ (acc:List UInt8) (n:Int):U2 acc n []=(acc,0):=by simp[U2,A5]
theorem NQ (acc:List UInt8) (n:Int) (r:Bool × List o9) (R:List (Bool × List o9)) (h:(F6 r.1 r.2 n).2=0):U2 acc n (r::R)=U2 (acc++((F6 r.1 r.2 n).1++ [10])) (n+1) R:=by
 unfold U2
 rw[A5,if_pos h]
 by_cases h2:(A5 (n+1) R).2=0
 ·simp only[if_pos h2,if_true,List.append_assoc,List.cons_append,List.nil_append]
 ·simp only[if_neg h2]
theorem TI (acc:List UInt8) (n:Int) (r:Bool × List o9) (R:List (Bool × List o9)) (h:(F6 r.1 r.2 n).2 ≠ 0):U2 acc n (r::R)=([],(F6 r.1 r.2 n).2):=by
 unfold U2
 rw[A5,if_neg h]
 simp only[if_neg h]
theorem aK0 (c:GM):B0 c=if W3 c=0 then (if (U2 (I4 c.1++ [10]) 1 c.2).2=0 then (if 60000<(U2 (I4 c.1++ [10]) 1 c.2).1.length then ([],4) else U2 (I4 c.1++ [10]) 1 c.2) else U2 (I4 c.1++ [10]) 1 c.2) else ([],W3 c):=by
 unfold B0 U2
 by_cases h1:W3 c=0
 ·simp only[if_pos h1]
  by_cases h2:(A5 1 c.2).2=0
  ·simp only[if_pos h2,if_true,List.append_assoc,List.cons_append,List.nil_append]
  ·simp only[if_neg h2]
 ·simp only[if_neg h1]
theorem aE5 (z:Int):I4 z++ [10]= [115,116,97,114,116,32,119,105,116,104,32]++(Lib.itoa z++ [32,115,116,105,116,99,104,101,115,46,10]):=by simp[I4]
section
variable (w:World) (n:Nat)
theorem bZ5 (s k:Nat) (c:GM) (hL:c.2.length≤140737488351232) (hK:bN8 c.2):m7 (EN w (n+7)) 43 [HE s k c] (.sc (.int .i64 (W3 c))) ⟨[],0,0⟩:=by
 obtain ⟨z,R⟩:=c
 simp only at hL hK
 have hil:=rK k R
 unfold W3
 simp only
 by_cases h1:100<R.length
 ·rw[if_pos h1]
  refine d6 rfl rfl (fun _ _=>rfl) (Nat.le_of_ble_eq_true rfl) (g9 w) rfl fun C hC h0=>?_
  simp (disch:=first|omega|exact bd (by with_unfolding_all rfl)|fail) only[WA,Nat.reduceEqDiff,Nat.reduceLT,↓reduceIte,reduceCtorEq,c43]
  all_goals try (exfalso;omega)
  exact b8 rfl h0 rfl
 rw[if_neg h1]
 by_cases h2:z<0∨200<z
 ·rw[if_pos h2]
  refine d6 rfl rfl (fun _ _=>rfl) (Nat.le_of_ble_eq_true rfl) (g9 w) rfl fun C hC h0=>?_
  rcases h2 with h2|h2
  all_goals
   repeat' (first|(simp (disch:=first|omega|exact bd (by with_unfolding_all rfl)|fail) only[WA,Nat.reduceEqDiff,Nat.reduceLT,↓reduceIte,reduceCtorEq,c43]))
   all_goals try (exfalso;omega)
   exact b8 rfl h0 rfl
 rw[if_neg h2]
 refine d6 rfl rfl (fun _ _=>rfl) (Nat.le_of_ble_eq_true rfl) (g9 w) rfl fun C hC h0=>?_
 have hrn:C.E.rounds=E8:=by rw[hC,l6]
 simp (disch:=first|omega|exact bd (by with_unfolding_all rfl)|fail) only[WA,Nat.reduceEqDiff,Nat.reduceLT,↓reduceIte,reduceCtorEq,c43]
 all_goals try (exfalso;omega)
 refine A0 (fun m fr st=>∃ j:Nat,m=R.length - j∧j≤R.length∧EU R=EU (R.drop j)∧fr= [(19,.sl s R.length (W1 k R)),(20,.sc (.int .i64 R.length)),(21,.sc (.int .i64 j))]∧st=⟨[],0,0⟩) R.length ?_ ⟨_,_,u6 [] 0 h0 rfl rfl rfl rfl,0,by omega,Nat.zero_le _,rfl,rfl,rfl⟩ ?_
 ·rw[hrn];unfold E8;omega
 rintro m fr st ⟨j,rfl,hj,hinv,rfl,rfl⟩
 by_cases hlt:j<R.length
 ·have hRj:R.drop j=R[j]! ::R.drop (j+1):=by rw[List.drop_eq_getElem_cons hlt,getElem!_pos R j hlt]
  have hag:=ET k R j hlt
  have hm:=hK R[j]! (by rw[getElem!_pos R j hlt];exact List.getElem_mem hlt)
  have ha:=JC w n k R[j]!.2 hm.2 hm.1
  rw[hRj,EU] at hinv
  generalize R[j]! =r at*
  obtain ⟨b,L⟩:=r
  simp only at hag ha hinv
  rw[hinv]
  by_cases h3:M5 L=0
  ·rw[if_pos h3] at hinv ⊢
   rw[h3] at ha
   simp (disch:=first|omega|exact bd (by with_unfolding_all rfl)|(simp only[j4]<;>omega)) only[WA,Nat.reduceEqDiff,Nat.reduceLT,↓reduceIte,List.replicate,VL,hag]
   all_goals try (exfalso;omega)
   refine a6 (by rw[hC];exact ha.flat rfl rfl) ?_
   simp (disch:=first|omega|exact bd (by with_unfolding_all rfl)|fail) only[WA,Nat.reduceEqDiff,Nat.reduceLT,↓reduceIte]
   rw[← hinv]
   exact ⟨R.length - (j+1),_,_,by omega,u6 [] 0 h0 rfl rfl rfl rfl,j+1,rfl,by omega,hinv,rfl,rfl⟩
  ·rw[if_neg h3]
   generalize M5 L=e at*
   simp (disch:=first|omega|exact bd (by with_unfolding_all rfl)|(simp only[j4]<;>omega)) only[WA,Nat.reduceEqDiff,Nat.reduceLT,↓reduceIte,List.replicate,VL,hag]
   all_goals try (exfalso;omega)
   refine a6 (by rw[hC];exact ha.flat rfl rfl) ?_
   simp (disch:=first|exact bd (by with_unfolding_all rfl)|(simp only[j4]<;>omega)) only[WA,Nat.reduceEqDiff,Nat.reduceLT,↓reduceIte,h3]
   exact b8 rfl h0 rfl
 ·have:j=R.length:=by omega
  subst this
  rw[List.drop_length] at hinv
  rw[hinv]
  simp (disch:=first|omega|exact bd (by with_unfolding_all rfl)|fail) only[WA,Nat.reduceEqDiff,Nat.reduceLT,↓reduceIte,VL]
  all_goals try (exfalso;omega)
  exact b8 rfl h0 rfl
end
section
variable (w:World) (n:Nat)
theorem VP (s k:Nat) (c:GM) (hL:c.2.length≤140737488351232) (hK:bN8 c.2):m7 (EN w (n+9)) 22 [HE s k c] (.tup [m9 (B0 c).1,.sc (.int .i64 (B0 c).2)]) ⟨[],0,0⟩:=by
 have hc:=bZ5 w (n+1) s k c hL hK
 rw[aK0]
 by_cases h1:W3 c=0
 case neg=>
  rw[if_neg h1]
  generalize W3 c=e at*
  refine d6 rfl rfl (fun _ _=>rfl) (Nat.le_of_ble_eq_true rfl) (g9 w) rfl fun C hC h0=>?_
  simp (disch:=first|exact bd (by with_unfolding_all rfl)|fail) only[WA,Nat.reduceEqDiff,Nat.reduceLT,↓reduceIte,reduceCtorEq,c22]
  refine a6 (by rw[hC];exact hc.flat rfl rfl) ?_
  simp (disch:=first|exact bd (by with_unfolding_all rfl)|(simp only[j4]<;>omega)) only[WA,Nat.reduceEqDiff,Nat.reduceLT,↓reduceIte,h1]
  exact b8 rfl h0 rfl
 obtain ⟨hc1,hc2,_⟩:=dD h1
 rw[h1] at hc
 rw[if_pos h1]
 clear h1
 obtain ⟨z,R⟩:=c
 simp only at hL hK hc1 hc2 ⊢
 have hil:=rK k R
 have hi:=fun st=>TF w (n+7) st z (by omega) (by omega)
 have hzl:=F9 (z:=z) (by omega) (by omega)
 have hse:=aE5 z
 have hsl:(I4 z++ [10]).length≤40:=by rw[hse];simp only[List.length_append,List.length_cons,List.length_nil];omega
 have nb:∀ a b:Nat,Nat.beq a b=false→a ≠ b:=fun a b=>Nat.ne_of_beq_eq_false
 generalize hJ:U2 (I4 z++ [10]) 1 R=J at*
 generalize hS:I4 z++ [10]=S at*
 generalize Lib.itoa z=A at*
 refine d6 rfl rfl (fun _ _=>rfl) (Nat.le_of_ble_eq_true rfl) (g9 w) (by split<;>first|(split<;>rfl)|rfl) fun C hC h0=>?_
 have hrn:C.E.rounds=E8:=by rw[hC,l6]
 simp (disch:=first|exact bd (by with_unfolding_all rfl)|fail) only[WA,Nat.reduceEqDiff,Nat.reduceLT,↓reduceIte,reduceCtorEq,c22]
 refine a6 (by rw[hC];exact hc.flat rfl rfl) ?_
 simp (disch:=first|exact bd (by with_unfolding_all rfl)|fail) only[WA,Nat.reduceEqDiff,Nat.reduceLT,Nat.reduceAdd,↓reduceIte,reduceCtorEq,List.replicate]
 all_goals try (exfalso;omega)
 have hse2:(115:UInt8)::116::97::114::116::32::119::105::116::104::32::(A++ [32,115,116,105,116,99,104,101,115,46,10])=S:=hse.symm
 refine a6 (by rw[hC];exact hi _) ?_
 simp (disch:=first|exact bd (by with_unfolding_all rfl)|(simp only[j4]<;>omega)) only[WA,Nat.reduceEqDiff,Nat.reduceLT,↓reduceIte,K3,List.append_assoc,hse2]
 all_goals try (exfalso;omega)
 refine SG (st:=⟨[(1,.box 83 1 [.sc (.pointer none),.sc (.slice none 0 0)]),(0,.box 52 1 [.sc (.int .i64 z),.sl s R.length (W1 k R)])],2,0⟩) (fun C' hn'=>pR (C:=C') (fr:= []) (l:= [.sc (.pointer none),.sc (.slice none 0 0)]) 1 83 1 1 5 1 rfl rfl (Nat.ne_of_beq_eq_false rfl)) ?_
 refine aZ7 w (n+5) hC 1 2 (.sc (.pointer none)) [] S rfl rfl (.inl rfl) (Nat.zero_le _) (Nat.zero_le _) (by decide) (Nat.ne_of_beq_eq_false rfl) (by simp;omega) ?_
 simp (disch:=first|exact bd (by with_unfolding_all rfl)|fail) only[WA,Nat.reduceEqDiff,Nat.reduceLT,Nat.reduceAdd,↓reduceIte,reduceCtorEq]
 refine A0 (fun m fr st=>∃ (j:Nat) (p:V) (F:List UInt8),m=R.length - j∧j≤R.length∧YQ 0 p∧J=U2 F ((j:Int)+1) (R.drop j)∧F.length≤40+j*2101∧fr= [(5,.ptr 0 0),(22,.sl s R.length (W1 k R)),(23,.sc (.int .i64 R.length)),(24,.sc (.int .i64 j))]∧
  st=⟨[(1,.gro 5 1 false (dY ⟨F.toArray⟩)),(0,.box 83 1 [p,.gr 2 1 F.length])],2,0⟩) R.length ?_ ⟨_,_,u6 [(3,1),(1,0)] 2 h0 rfl rfl rfl rfl,0,.ptr 0 0,S,by omega,Nat.zero_le _,.inr rfl,hJ.symm,by omega,rfl,by simp;rfl⟩ ?_
 ·rw[hrn];unfold E8;omega
 rintro m fr st ⟨j,p,F,rfl,hj,hp,hinv,hF,rfl,rfl⟩
 by_cases hlt:j<R.length
 case neg=>
  have:j=R.length:=by omega
  subst this
  rw[List.drop_length,TJ] at hinv
  subst hinv
  simp only[if_true]
  have hFz:=p6 F
  have hbl:=fun (st:l9) (h:f7 st.own 0=some (.box 83 1 [p,.gr 2 1 F.length]))=>bO4 w (n+7) st 0 1 1 F.length p h (by omega)
  by_cases hb:60000<F.length
  ·rw[if_pos hb]
   simp (disch:=first|omega|exact bd (by with_unfolding_all rfl)|fail) only[WA,Nat.reduceEqDiff,Nat.reduceLT,↓reduceIte,KP]
   refine a6 (by rw[hC];refine hbl _ ?_;rfl) ?_
   simp (disch:=first|omega|exact bd (by with_unfolding_all rfl)|fail) only[WA,Nat.reduceEqDiff,Nat.reduceLT,↓reduceIte]
   all_goals try (exfalso;omega)
   exact b8 rfl h0 rfl
  ·rw[if_neg hb]
   simp (disch:=first|omega|exact bd (by with_unfolding_all rfl)|fail) only[WA,Nat.reduceEqDiff,Nat.reduceLT,↓reduceIte,KP]
   refine a6 (by rw[hC];refine hbl _ ?_;rfl) ?_
   simp (disch:=first|omega|exact bd (by with_unfolding_all rfl)|fail) only[WA,Nat.reduceEqDiff,Nat.reduceLT,↓reduceIte]
   all_goals try (exfalso;omega)
   refine aW3 w (n+7) hC 0 1 p ⟨F.toArray⟩ (by rw[hFz];rfl) rfl (Nat.zero_le _) (Nat.zero_le _) (by omega) fun st' hst=>?_
   repeat' (first|(simp (disch:=fail) only[WA,l8,r5,Nat.reduceEqDiff,Nat.reduceLT,Nat.reduceAdd,Nat.reduceBEq,Int.reduceAdd,Int.reduceSub,Int.reduceLT,Int.reduceLE,Int.reduceEq,Int.reduceNeg,↓reduceIte,reduceCtorEq,List.replicate])|apply v8|((first|apply F3|apply y8|apply A7|apply F4|apply E9|apply A8)<;>intro _))
   exact b8 rfl h0 hst
 have hRj:R.drop j=R[j]! ::R.drop (j+1):=by rw[List.drop_eq_getElem_cons hlt,getElem!_pos R j hlt]
 have hag:=ET k R j hlt
 have hm:=hK R[j]! (by rw[getElem!_pos R j hlt];exact List.getElem_mem hlt)
 have hrw:=aU7 w n R[j]!.1 k R[j]!.2 ((j:Int)+1) hm.2 hm.1
 have hrl:=aU6 (b:=R[j]!.1) (L:=R[j]!.2) (n:=(j:Int)+1)
 rw[hRj] at hinv
 have e1:=NQ F ((j:Int)+1) R[j]! (R.drop (j+1))
 have e2:=TI F ((j:Int)+1) R[j]! (R.drop (j+1))
 generalize hr:R[j]! =r at*
 obtain ⟨b,L⟩:=r
 simp only at hag hrw e1 e2 hrl
 by_cases h2:(F6 b L ((j:Int)+1)).2=0
 ·rw[e1 h2] at hinv
  rw[h2] at hrw
  generalize (F6 b L ((j:Int)+1)).1=T at*
  clear e1 e2 h2
  simp (disch:=first|omega|exact bd (by with_unfolding_all rfl)|(simp only[j4]<;>omega)) only[WA,Nat.reduceEqDiff,Nat.reduceLT,Nat.reduceAdd,↓reduceIte,List.replicate,KP,hag]
  all_goals try (exfalso;omega)
  refine a6 (by rw[hC];exact hrw.flat rfl rfl) ?_
  simp (disch:=first|omega|exact bd (by with_unfolding_all rfl)|(simp only[j4]<;>omega)) only[WA,Nat.reduceEqDiff,Nat.reduceLT,↓reduceIte,K3]
  all_goals try (exfalso;omega)
  refine aZ7 w (n+5) hC 0 1 p F (T++ [10]) rfl rfl hp (Nat.zero_le _) (Nat.zero_le _) (by decide) (nb _ _ rfl) (by simp;omega) ?_
  simp (disch:=fail) only[WA,Nat.reduceEqDiff,Nat.reduceAdd,↓reduceIte,reduceCtorEq]
  refine ⟨R.length - (j+1),_,_,by omega,u6 [(3,1),(0,0)] 2 h0 rfl rfl rfl rfl,j+1,.ptr 0 0,F++(T++ [10]),rfl,by omega,.inr rfl,?_,?_,rfl,?_⟩
  ·rw[hinv];rfl
  ·simp only[List.length_append,List.length_cons,List.length_nil];omega
  ·simp only[List.length_append];rfl
 ·rw[e2 h2] at hinv
  subst hinv
  generalize (F6 b L ((j:Int)+1)).2=e at*
  simp only[if_neg h2]
  clear e1 e2
  simp (disch:=first|omega|exact bd (by with_unfolding_all rfl)|(simp only[j4]<;>omega)) only[WA,Nat.reduceEqDiff,Nat.reduceLT,Nat.reduceAdd,↓reduceIte,List.replicate,KP,hag]
  all_goals try (exfalso;omega)
  refine a6 (by rw[hC];exact hrw.flat rfl rfl) ?_
  simp (disch:=first|exact bd (by with_unfolding_all rfl)|(simp only[j4]<;>omega)) only[WA,Nat.reduceEqDiff,Nat.reduceLT,↓reduceIte,h2]
  exact b8 rfl h0 rfl
end
def aR3:Option GM→V
 |none=> .tup [.agg [.sc (.int .i64 0),.sl 3 0 []],.sc (.int .i64 12)]
 |some c=> .tup [HE 3 3 c,.sc (.int .i64 0)]
theorem J0 {C:C5} {st:l9} {b x:Value} (h0:C.w0.nx=0) (hro:st.ro=0):M4 C [(0,.tup [.agg [.sc b,.sc (.slice none 0 0)],.sc x])] st [(0,.tup [.agg [.sc b,.sl 3 0 []],.sc x])] ⟨[],0,0⟩:=
 (L9 (t:=0) (v:= .tup [.agg [.sc b,.sc (.slice none 0 0)],.sc x]) (v':= .tup [.agg [.sc b,.sl 3 0 []],.sc x]) rfl (yU (.cons (yT (.cons (.refl _) (.cons kV .nil))) (.cons (.refl _) .nil)))).trans (u6 [] 0 h0 hro rfl rfl rfl)
theorem aH1 {C:C5} {st:l9} {b x:Value} {v:V} {s n:Nat} {l:List D} (hs:x6 st.own v=some (.sl s n l)) (hrow:E0 st.ro st.own (cQ v)=true) (hk:s ≠ 1∨n ≠ 0) (h0:C.w0.nx=0) (hro:st.ro=0):M4 C [(0,.tup [.agg [.sc b,v],.sc x])] st [(0,.tup [.agg [.sc b,.sl 3 n l],.sc x])] ⟨[],0,0⟩:=by
 have e1:cQ (.tup [.agg [.sc b,v],.sc x])=cQ v:=by simp[cQ,Z3]
 have e2:x6 st.own (.tup [.agg [.sc b,v],.sc x])=some (.tup [.agg [.sc b,.sl s n l],.sc x]):=by simp[x6,J6,hs]
 refine (eE (t:=0) (v:= .tup [.agg [.sc b,v],.sc x]) rfl e2 (by rw[e1];exact hrow)).trans ?_
 refine (L9 (t:=0) (v:= .tup [.agg [.sc b,.sl s n l],.sc x]) (v':= .tup [.agg [.sc b,.sl 3 n l],.sc x]) rfl (yU (.cons (yT (.cons (.refl _) (.cons (pL hk) .nil))) (.cons (.refl _) .nil)))).trans ?_
 exact u6 [] 0 h0 hro rfl rfl rfl
theorem yO {b x:Value} {n:Nat} {l:List D}:bG [] (.tup [.agg [.sc b,.sl 3 n l],.sc x]):=dW (by simp only[Cl,GN,and_true];exact ⟨trivial,rfl⟩)
theorem ES (nx t:Nat) (a:Value) (n:Nat) (l:List D):N2 nx t 2 1 [.bool false,.slice none 0 0] [(0,2,.agg [.sc a,.sl 3 n l])]=some (.ref nx 0 1 1,some (.row t 2 false false [.sc a,.sl 3 n l]),[]):=(rfl)
theorem zC {H:E3} {o t n:Nat} {z:Bool} {l:List D} (h:f7 H o=some (.gro t 2 z l)) (hl:l.length=n*2):x6 H (.gr 2 o n)=some (.sl 2 n l):=by
 simp only[x6,cU,h]
 rw[if_pos ⟨hl,by decide,by decide,by decide⟩]
 rfl
theorem UM (k:Nat) (R:List (Bool × List o9)) (b:Bool) (L:List o9):W1 k (R++ [(b,L)])=W1 k R++ [.sc (.bool b),.sl k L.length (s5 L)]:=by simp[W1,aU4]
theorem bF7 {s:List UInt8} {b:Bool} {L:List o9} {k:Int} (h:gJ s=some (b,L,k)):RV L∧L.length≤140737488351232:=by
 have h1:=(pH (by rw[yF h]:(F6 b L k).2=0)).2.2.2
 have h2:=(O0 h1).1
 exact ⟨jS h1,by omega⟩
section
variable (w:World) (n:Nat)
theorem bF1 (s:List UInt8) (hs:s.length≤100000):m7 (EN w (n+11)) 23 [m9 s] (aR3 (tG s)) ⟨[],0,0⟩:=by
 have hsz:=p6 s
 rw[← aR6]
 have hok:bG [] (aR3 (lR s)):=by
  rcases lR s with _|c
  ·exact yO
  ·exact yO
 have hun:lR s=if 60000<s.length then none else match B8 [oW,gH] ((n5 10 s).headD []) with
  |none=>none
  |some (m,r)=>if r= []∧(n5 10 s).length≤102 then (match lT 1 (n5 10 s).tail.dropLast [] with
   |none=>none
   |some R=>if B0 (m.headD 0,R)=(s,0) then some (m.headD 0,R) else none) else none:=rfl
 generalize lR s=Z at*
 by_cases h1:60000<s.length
 ·rw[if_pos h1] at hun
  subst hun
  refine y6 rfl rfl (fun _ _=>rfl) (Nat.le_of_ble_eq_true rfl) (g9 w) hok rfl fun C hC h0=>?_
  simp (disch:=first|omega|exact bd (by with_unfolding_all rfl)|(simp only[j4]<;>omega)) only[WA,Nat.reduceEqDiff,Nat.reduceLT,↓reduceIte,reduceCtorEq,List.replicate,c23,hsz]
  all_goals try (exfalso;omega)
  exact J0 h0 rfl
 rw[if_neg h1] at hun
 have hsp:=YR w (n+4) s 10 (by omega)
 have hwl:=(Go.Itp.words_len (c:=10) s.length (s:=s) (Nat.le_refl _))
 have hwn:=eF 10 s
 generalize n5 10 s=q at*
 obtain ⟨q0,qt,rfl⟩:∃ a t,q=a::t:=by
  cases q with
  |nil=>exact absurd rfl hwn
  |cons a t=>exact ⟨a,t,rfl⟩
 have hq0:=hwl.2 q0 (by simp)
 have hm:=IJ w (n+3) q0 [115,116,97,114,116,32,119,105,116,104,32,35,32,115,116,105,116,99,104,101,115,46] (by omega) (by decide)
 rw[show n5 35 ([115,116,97,114,116,32,119,105,116,104,32,35,32,115,116,105,116,99,104,101,115,46]:List UInt8)= [oW,gH] from by decide+kernel] at hm
 have hlen:=fun m r (h:B8 [oW,gH] q0=some (m,r))=>mU (f:= [oW,gH]) (by simp) h
 simp only[List.headD_cons,List.tail_cons] at hun
 have dl0:E4 (sD q0::List.map sD qt) 0 none=some (m9 q0):=(rfl)
 cases hM:B8 [oW,gH] q0 with
 |none=>
  rw[hM] at hm hun
  unfold iV at hm
  simp only at hun
  subst hun
  refine y6 rfl rfl (fun _ _=>rfl) (Nat.le_of_ble_eq_true rfl) (g9 w) hok rfl fun C hC h0=>?_
  simp (disch:=first|omega|exact bd (by with_unfolding_all rfl)|fail) only[WA,Nat.reduceEqDiff,Nat.reduceLT,↓reduceIte,reduceCtorEq,List.replicate,c23,hsz]
  all_goals try (exfalso;omega)
  refine k9 (by rw[hC];exact hsp) rfl rfl (fun _=>rfl) ?_
  simp (disch:=first|omega|exact bd (by with_unfolding_all rfl)|fail) only[WA,Nat.reduceEqDiff,Nat.reduceLT,↓reduceIte,reduceCtorEq,AT,dl0,List.length_cons]
  refine k9 (by rw[hC];exact hm) rfl rfl (fun _=>rfl) ?_
  simp (disch:=first|omega|exact bd (by with_unfolding_all rfl)|(simp only[j4]<;>omega)) only[WA,Nat.reduceEqDiff,Nat.reduceLT,↓reduceIte,reduceCtorEq]
  exact J0 h0 rfl
 |some mr=>
  obtain ⟨m,r⟩:=mr
  have hl:=hlen m r hM
  rw[hM] at hm hun
  unfold iV at hm
  simp only at hun
  clear hlen hM
  obtain ⟨v,rfl⟩:∃ v,m= [v]:=by
   cases m with
   |nil=>simp at hl
   |cons a q=>cases q with
    |nil=>exact ⟨a,rfl⟩
    |cons b c=>simp at hl
  simp only[List.headD_cons] at hun
  have hemp:((⟨r.toArray⟩:ByteArray)=⟨#[]⟩)=(r= []):=aF r []
  by_cases hr:r= []
  case neg=>
   rw[if_neg fun h=>hr h.1] at hun
   subst hun
   refine y6 rfl rfl (fun _ _=>rfl) (Nat.le_of_ble_eq_true rfl) (g9 w) hok rfl fun C hC h0=>?_
   simp (disch:=first|omega|exact bd (by with_unfolding_all rfl)|fail) only[WA,Nat.reduceEqDiff,Nat.reduceLT,↓reduceIte,reduceCtorEq,List.replicate,c23,hsz]
   all_goals try (exfalso;omega)
   refine k9 (by rw[hC];exact hsp) rfl rfl (fun _=>rfl) ?_
   simp (disch:=first|omega|exact bd (by with_unfolding_all rfl)|fail) only[WA,Nat.reduceEqDiff,Nat.reduceLT,↓reduceIte,reduceCtorEq,AT,dl0,List.length_cons]
   refine k9 (by rw[hC];exact hm) rfl rfl (fun _=>rfl) ?_
   simp (disch:=first|omega|exact bd (by with_unfolding_all rfl)|(simp only[j4]<;>omega)) only[WA,Nat.reduceEqDiff,Nat.reduceLT,↓reduceIte,reduceCtorEq,hemp,hr]
   exact J0 h0 rfl
  subst hr
  by_cases h102:(q0::qt).length≤102
  case neg=>
   rw[if_neg fun h=>h102 h.2] at hun
   subst hun
   simp only[List.length_cons] at h102
   refine y6 rfl rfl (fun _ _=>rfl) (Nat.le_of_ble_eq_true rfl) (g9 w) hok rfl fun C hC h0=>?_
   simp (disch:=first|omega|exact bd (by with_unfolding_all rfl)|fail) only[WA,Nat.reduceEqDiff,Nat.reduceLT,↓reduceIte,reduceCtorEq,List.replicate,c23,hsz]
   all_goals try (exfalso;omega)
   refine k9 (by rw[hC];exact hsp) rfl rfl (fun _=>rfl) ?_
   simp (disch:=first|omega|exact bd (by with_unfolding_all rfl)|fail) only[WA,Nat.reduceEqDiff,Nat.reduceLT,↓reduceIte,reduceCtorEq,AT,dl0,List.length_cons]
   refine k9 (by rw[hC];exact hm) rfl rfl (fun _=>rfl) ?_
   simp (disch:=first|omega|exact bd (by with_unfolding_all rfl)|(simp only[j4]<;>omega)) only[WA,Nat.reduceEqDiff,Nat.reduceLT,↓reduceIte,reduceCtorEq]
   all_goals try (exfalso;omega)
   exact J0 h0 rfl
  rw[if_pos ⟨rfl,h102⟩] at hun
  refine y6 rfl rfl (fun _ _=>rfl) (Nat.le_of_ble_eq_true rfl) (g9 w) hok rfl fun C hC h0=>?_
  have hrn:C.E.rounds=E8:=by rw[hC,l6]
  simp only[List.length_cons] at h102
  simp (disch:=first|omega|exact bd (by with_unfolding_all rfl)|fail) only[WA,Nat.reduceEqDiff,Nat.reduceLT,↓reduceIte,reduceCtorEq,List.replicate,c23,hsz]
  all_goals try (exfalso;omega)
  refine k9 (by rw[hC];exact hsp) rfl rfl (fun _=>rfl) ?_
  simp (disch:=first|omega|exact bd (by with_unfolding_all rfl)|fail) only[WA,Nat.reduceEqDiff,Nat.reduceLT,↓reduceIte,reduceCtorEq,AT,dl0,List.length_cons]
  refine k9 (by rw[hC];exact hm) rfl rfl (fun _=>rfl) ?_
  simp (disch:=first|omega|exact bd (by with_unfolding_all rfl)|(simp only[j4]<;>omega)) only[WA,Nat.reduceEqDiff,Nat.reduceLT,Nat.reduceAdd,↓reduceIte,reduceCtorEq,List.replicate,List.map_cons,List.map_nil,AT,dl1]
  all_goals try (exfalso;omega)
  obtain ⟨Q,hQ⟩:∃ Q,Q=q0::qt:=⟨_,rfl⟩
  have e1:sD q0::List.map sD qt=Q.map sD:=by rw[hQ];rfl
  have e2:qt.length+1=Q.length:=by rw[hQ];rfl
  have hmid:qt.dropLast.length=Q.length - 2:=by rw[List.length_dropLast];omega
  have hQj:∀ j,1≤j→j - 1<qt.dropLast.length→Q[j]! =qt.dropLast[j - 1]! :=fun j a b=>by
   rw[getElem!_pos qt.dropLast _ b,getElem!_pos Q j (by omega),List.getElem_dropLast]
   simp only[hQ]
   rw[List.getElem_cons,dif_neg (by omega)]
  have hQl:∀ j,j<Q.length→Q[j]!.length≤s.length:=fun j a=>hwl.2 _ (by rw[← hQ,getElem!_pos Q j a];exact List.getElem_mem a)
  rw[e1,e2]
  rw[e2] at h102
  clear e1 dl0 hsp hm hl hwl hwn hq0 hQ
  generalize qt.dropLast=mid at*
  refine A0 (fun m fr st=>∃ (j:Nat) (acc:List (Bool × List o9)),m=Q.length - j∧1≤j∧j - 1≤mid.length∧acc.length=j - 1∧bN8 acc∧lT 1 mid []=lT j (mid.drop (j - 1)) acc∧fr= [(0,m9 s),(2,.ptr 0 0),(4,.sl 3 Q.length (Q.map sD)),(8,.ptr 1 0),(9,.sc (.int .i64 j))]∧
   st=⟨[(2,.gro 36 2 false (W1 3 acc)),(1,.box 52 1 [.sc (.int .i64 v),.gr 2 2 acc.length]),(0,.box 52 1 [.sc (.int .i64 0),.sc (.slice none 0 0)])],3,0⟩) (Q.length - 1) ?_ ⟨_,_,pR 1 52 1 1 36 2 rfl rfl (Nat.ne_of_beq_eq_false rfl),1,[],by omega,Nat.le_refl _,by omega,rfl,(fun r hr=>by cases hr),rfl,rfl,rfl⟩ ?_
  ·rw[hrn];unfold E8;omega
  rintro m fr st ⟨j,acc,rfl,hj1,hj,hal,hak,hinv,rfl,rfl⟩
  have hd:=rK 3 acc
  by_cases hlt:j - 1<mid.length
  ·have hmj:mid.drop (j - 1)=mid[j - 1]! ::mid.drop (j - 1+1):=by rw[List.drop_eq_getElem_cons hlt,getElem!_pos mid _ hlt]
   have hq:=hQj j hj1 hlt
   have hxl:=hQl j (by omega)
   have hpr:=aS1 w n Q[j]! (by omega)
   rw[hmj,lT,← hq] at hinv
   generalize hX:Q[j]! =X at*
   cases hR:gJ X with
   |none=>
    rw[hR] at hpr hinv
    simp only at hinv
    rw[hinv] at hun
    simp only at hun
    subst hun
    unfold OL at hpr
    simp only at hpr
    simp (disch:=first|omega|exact bd (by with_unfolding_all rfl)|fail) only[WA,Nat.reduceEqDiff,Nat.reduceLT,↓reduceIte,reduceCtorEq,uZ,hX]
    all_goals try (exfalso;omega)
    refine k9 (by rw[hC];exact hpr) rfl rfl (fun _=>rfl) ?_
    simp (disch:=first|omega|exact bd (by with_unfolding_all rfl)|(simp only[j4]<;>omega)) only[WA,Nat.reduceEqDiff,Nat.reduceLT,Nat.reduceAdd,Int.reduceEq,↓reduceIte,reduceCtorEq,List.replicate]
    exact J0 h0 rfl
   |some y=>
    obtain ⟨b,L,k⟩:=y
    have hRK:=bF7 hR
    rw[hR] at hpr hinv
    simp only at hinv
    unfold OL at hpr
    simp only at hpr
    by_cases hkj:k=(j:Int)
    case neg=>
     rw[if_neg hkj] at hinv
     rw[hinv] at hun
     simp only at hun
     subst hun
     simp (disch:=first|omega|exact bd (by with_unfolding_all rfl)|fail) only[WA,Nat.reduceEqDiff,Nat.reduceLT,↓reduceIte,reduceCtorEq,uZ,hX]
     all_goals try (exfalso;omega)
     refine k9 (by rw[hC];exact hpr) rfl rfl (fun _=>rfl) ?_
     simp (disch:=first|omega|exact bd (by with_unfolding_all rfl)|(simp only[j4]<;>omega)) only[WA,Nat.reduceEqDiff,Nat.reduceLT,Nat.reduceAdd,↓reduceIte,reduceCtorEq,List.replicate,hkj]
     exact J0 h0 rfl
    rw[if_pos hkj] at hinv
    subst hkj
    have hsn:=UM 3 acc b L
    generalize W1 3 acc=AD at*
    simp (disch:=first|omega|exact bd (by with_unfolding_all rfl)|fail) only[WA,Nat.reduceEqDiff,Nat.reduceLT,↓reduceIte,reduceCtorEq,uZ,hX]
    all_goals try (exfalso;omega)
    refine k9 (by rw[hC];exact hpr) rfl rfl (fun _=>rfl) ?_
    simp (disch:=first|omega|exact bd (by with_unfolding_all rfl)|(simp only[j4]<;>omega)) only[WA,Nat.reduceEqDiff,Nat.reduceLT,Nat.reduceAdd,↓reduceIte,reduceCtorEq,List.replicate,ES]
    all_goals try (exfalso;omega)
    refine ⟨Q.length - (j+1),_,_,by omega,u6 [(5,2),(1,1),(0,0)] 3 h0 rfl rfl rfl rfl,j+1,acc++ [(b,L)],rfl,by omega,by omega,by simp;omega,fun r hr=>?_,?_,by rfl,?_⟩
    ·rcases List.mem_append.1 hr with hr|hr
     ·exact hak r hr
     ·rw[List.mem_singleton.1 hr];exact hRK
    ·rw[hinv,show j+1 - 1=j - 1+1 by omega];rfl
    ·rw[hsn,List.length_append];rfl
  ·have hje:j - 1=mid.length:=by omega
   rw[hje,List.drop_length,lT] at hinv
   rw[hinv] at hun
   simp only at hun
   have hch:=VP w (n+1) 2 3 (v,acc) (by simp only;omega) hak
   have hmj:((⟨(B0 (v,acc)).1.toArray⟩:ByteArray)=⟨s.toArray⟩)=((B0 (v,acc)).1=s):=aF _ _
   have hpair:B0 (v,acc)=(s,0)↔(B0 (v,acc)).2=0∧(B0 (v,acc)).1=s:=⟨fun h=>by rw[h];exact ⟨rfl,rfl⟩,fun h=>Prod.ext h.2 h.1⟩
   have hsnap:∀ st:l9,f7 st.own 2=some (.gro 36 2 false (W1 3 acc))→J6 st.own [.agg [.sc (.int .i64 v),.gr 2 2 acc.length]]=some [HE 2 3 (v,acc)]:=fun st h=>by
    have:=zC h hd
    simp only[J6,x6] at this ⊢
    simp[this]
   have hfin:x6 ([(2,.gro 36 2 false (W1 3 acc))]:E3) (.gr 2 2 acc.length)=some (.sl 2 acc.length (W1 3 acc)):=zC rfl hd
   by_cases he:(B0 (v,acc)).2=0
   case neg=>
    replace hun:=hun.trans (if_neg fun h=>he (hpair.1 h).1)
    subst hun
    clear hpair
    generalize (B0 (v,acc)).2=e at*
    generalize (B0 (v,acc)).1=T at*
    simp (disch:=first|omega|exact bd (by with_unfolding_all rfl)|fail) only[WA,Nat.reduceEqDiff,Nat.reduceLT,↓reduceIte,reduceCtorEq,uZ]
    all_goals try (exfalso;omega)
    refine a6 (by rw[hC];exact hch.flat rfl (hsnap _ rfl)) ?_
    simp (disch:=first|omega|exact bd (by with_unfolding_all rfl)|(simp only[j4]<;>omega)) only[WA,Nat.reduceEqDiff,Nat.reduceLT,↓reduceIte,reduceCtorEq,he]
    exact J0 h0 rfl
   by_cases ht:(B0 (v,acc)).1=s
   case neg=>
    replace hun:=hun.trans (if_neg fun h=>ht (hpair.1 h).2)
    subst hun
    rw[he] at hch
    rw[eq_false ht] at hmj
    clear hpair
    generalize (B0 (v,acc)).1=T at*
    simp (disch:=first|omega|exact bd (by with_unfolding_all rfl)|fail) only[WA,Nat.reduceEqDiff,Nat.reduceLT,↓reduceIte,reduceCtorEq,uZ]
    all_goals try (exfalso;omega)
    refine a6 (by rw[hC];exact hch.flat rfl (hsnap _ rfl)) ?_
    simp (disch:=first|omega|exact bd (by with_unfolding_all rfl)|(simp only[j4]<;>omega)) only[WA,Nat.reduceEqDiff,Nat.reduceLT,↓reduceIte,reduceCtorEq,hmj]
    exact J0 h0 rfl
   ·replace hun:=hun.trans (if_pos (hpair.2 ⟨he,ht⟩))
    subst hun
    rw[he,ht] at hch
    clear hpair hmj
    simp (disch:=first|omega|exact bd (by with_unfolding_all rfl)|fail) only[WA,Nat.reduceEqDiff,Nat.reduceLT,↓reduceIte,reduceCtorEq,uZ]
    all_goals try (exfalso;omega)
    refine a6 (by rw[hC];exact hch.flat rfl (hsnap _ rfl)) ?_
    simp (disch:=first|exact bd (by with_unfolding_all rfl)|(simp only[j4]<;>omega)) only[WA,Nat.reduceEqDiff,Nat.reduceLT,↓reduceIte,reduceCtorEq]
    exact aH1 (s:=2) (zC rfl hd) rfl (.inl (by decide)) h0 rfl
end
set_option maxHeartbeats 4000000
abbrev xA:List UInt8:= [107,51,32,121,111,32,121,111,32,107,102,50,32,112]
abbrev xB:List UInt8:= [112,115,32,112,115,32,112,109,51,32,107,120,50,47,49]
abbrev xC:List UInt8:= [107,53]
abbrev tA:List UInt8:= [107,110,105,116,32,51,44,32,121,97,114,110,32,111,118,101,114,32,50,32,116,105,109,101,115,44,32,107,110,105,116,32,50,32,116,111,103,101,116,104,101,114,32,40,102,105,114,115,116,32,111,110,32,116,111,112,41,44,32,112,117,114,108,32,49]
abbrev tB:List UInt8:= [114,111,119,32,50,32,40,98,97,99,107,41,58,32,115,108,105,112,32,50,32,119,105,116,104,32,121,97,114,110,32,105,110,32,102,114,111,110,116,44,32,109,97,107,101,32,51,32,111,117,116,32,111,102,32,49,32,112,117,114,108,119,105,115,101,44,32,99,114,111,115,115,32,50,32,105,110,32,102,114,111,110,116,32,111,102,32,49,46]
abbrev tC:List UInt8:= [115,116,97,114,116,32,119,105,116,104,32,53,32,115,116,105,116,99,104,101,115,46,10,114,111,119,32,49,32,40,102,114,111,110,116,41,58,32,107,110,105,116,32,53,46,10]
abbrev rA:List UInt8:= [107,110,105,116,32,51,44,32,107,110,105,116,32,49]
abbrev rB:List UInt8:= [121,97,114,110,32,111,118,101,114,32,49,32,116,105,109,101,115]
theorem LB:y7 (E2 xA).1=(tA,0)∧F6 true (E2 xB).1 2=(tB,0)∧B0 (5,[(false,(E2 xC).1)])=(tC,0)∧F5 rA=([],12)∧F5 rB=([],12):=by
 refine ⟨by decide+kernel,by decide+kernel,by decide+kernel,by decide+kernel,by decide+kernel⟩
theorem zD {H:E3} {o t:Nat} {z:Bool} {L:List o9} (h:f7 H o=some (.gro t 4 z (s5 L))):J6 H [.sl 3 L.length (s5 L),.gr 2 o L.length]=some [.sl 3 L.length (s5 L),.sl 2 L.length (s5 L)]:=by
 have:=cD h (z6 L)
 simp only[J6,this,Option.bind_some,Option.map_some]
 rfl
theorem aJ9:E2 xA=((E2 xA).1,0)∧E2 xB=((E2 xB).1,0)∧E2 xC=((E2 xC).1,0)∧(E2 xA).1 ≠ []∧(E2 xB).1 ≠ []∧(E2 xC).1 ≠ []:=by
 refine ⟨by decide+kernel,by decide+kernel,by decide+kernel,by decide+kernel,by decide+kernel,by decide+kernel⟩
section
variable (w:World) (n:Nat)
theorem aP5 (s:List UInt8) (hs:s.length≤3000) (hne:s ≠ []) (L:List o9) (hL:E2 s=(L,0)):m7 (EN w (n+5)) 42 [m9 s] (.gr 2 0 L.length) ⟨[(0,.gro 48 4 false (s5 L))],1,0⟩:=by
 have hp:=DZ w n s hs hne L hL
 have hd:=z6 L
 refine y6 rfl rfl (fun _ _=>rfl) (Nat.le_of_ble_eq_true rfl) (g9 w) (PH (by
  constructor
  ·intro h;exact List.length_eq_zero_iff.1 (by omega)
  ·intro h;rw[h] at hd;simp at hd;omega)) rfl fun C hC h0=>?_
 simp (disch:=first|exact bd (by with_unfolding_all rfl)|fail) only[WA,Nat.reduceEqDiff,Nat.reduceLT,↓reduceIte,reduceCtorEq,c42]
 refine vC (by rw[hC];exact hp) rfl rfl rfl ?_
 simp (disch:=first|exact bd (by with_unfolding_all rfl)|fail) only[WA,Nat.reduceEqDiff,Nat.reduceLT,↓reduceIte,reduceCtorEq,AU,AN,FA,shO,Z3,cQ,S1]
 exact u6 [(0,0)] 1 h0 rfl rfl rfl rfl
theorem wT (s:List UInt8) (hs:s.length≤3000) (hne:s ≠ []) (L:List o9) (hL:E2 s=(L,0)):m7 (EN w (n+5)) 42 [m9 s] (.sl 3 L.length (s5 L)) ⟨[],0,0⟩:=
 (aP5 w n s hs hne L hL).weak (fun C h0=>rW (s:=2) (cD rfl (z6 L)) rfl (.inl (by decide)) h0 rfl) (fun h=>by cases h)
theorem wS (st0:l9) (s:List UInt8) (hs:s.length≤3000) (hne:s ≠ []) (L:List o9) (hL:E2 s=(L,0)) (hLn:L ≠ []):GS (EN w (n+5)) 42 st0 [m9 s] (.gr 2 st0.next L.length) (.gro 48 4 false (s5 L)):=by
 have hp:=DZ w n s hs hne L hL
 have hd:=z6 L
 have hpos:=List.length_pos_iff.2 hLn
 refine aY8 rfl rfl (fun _ _=>rfl) (Nat.le_of_ble_eq_true rfl) (by omega) (fun e=>by rw[e,List.length_nil] at hd;omega) (fun d hd=>?_) fun C hC hn=>⟨⟨(st0.next,.gro 48 4 false (s5 L))::st0.own,st0.next+1,st0.next⟩,st0.next,by simp[f7],Nat.le_refl _,?_⟩
 ·unfold s5 at hd
  simp only[List.mem_flatMap,List.mem_cons,List.not_mem_nil,or_false] at hd
  obtain ⟨x,_,rfl|rfl|rfl|rfl⟩:=hd<;>exact ⟨_,rfl⟩
 ·simp (disch:=first|exact bd (by with_unfolding_all rfl)|fail) only[WA,Nat.reduceEqDiff,Nat.reduceLT,↓reduceIte,reduceCtorEq,c42]
  refine vC (by rw[hC];exact hp) rfl rfl rfl ?_
  simp (disch:=first|exact bd (by with_unfolding_all rfl)|fail) only[WA,Nat.reduceEqDiff,Nat.reduceLT,↓reduceIte,reduceCtorEq,AU,AN,FA,shO,Z3,cQ,S1]
  exact .refl _ _
theorem EF (s:List UInt8) (hs:s.length≤100000) (h:F5 s=([],12)):m7 (EN w (n+10)) 21 [m9 s] (.sc (.bool true)) ⟨[],0,0⟩:=by
 have hp:=jA w n s hs
 rw[h] at hp
 unfold vE at hp
 simp only at hp
 refine d6 rfl rfl (fun _ _=>rfl) (Nat.le_of_ble_eq_true rfl) (g9 w) rfl fun C hC h0=>?_
 simp (disch:=first|exact bd (by with_unfolding_all rfl)|fail) only[WA,Nat.reduceEqDiff,Nat.reduceLT,↓reduceIte,reduceCtorEq,c21]
 refine k9 (by rw[hC];exact hp) rfl rfl (fun _=>rfl) ?_
 simp (disch:=first|omega|exact bd (by with_unfolding_all rfl)|(simp only[j4]<;>omega)) only[WA,Nat.reduceEqDiff,Nat.reduceLT,↓reduceIte,reduceCtorEq]
 exact b8 rfl h0 rfl
theorem bB3:m7 (EN w (n+12)) 24 [] (.sc (.bool true)) ⟨[],0,0⟩:=by
 obtain ⟨f1,f2,f3,f4,f5⟩:=LB
 have a1:=iY xA
 have a2:=iY xB
 have a3:=iY xC
 obtain ⟨g1,g2,g3,n1,n2,n3⟩:=aJ9
 have c1:=wT w (n+6) xA (by decide) (by decide) _ g1
 have c2:=wT w (n+6) xB (by decide) (by decide) _ g2
 have c3:=wT w (n+6) xC (by decide) (by decide) _ g3
 have o1:=fun st=>wS w (n+6) st xA (by decide) (by decide) _ g1 n1
 have o2:=fun st=>wS w (n+6) st xB (by decide) (by decide) _ g2 n2
 have o3:=fun st=>wS w (n+6) st xC (by decide) (by decide) _ g3 n3
 clear g1 g2 g3
 generalize (E2 xA).1=A at*
 generalize (E2 xB).1=B at*
 generalize (E2 xC).1=D1 at*
 have l1:=(O0 a1).1
 have l2:=(O0 a2).1
 have l3:=(O0 a3).1
 have k1:=jS a1
 have k2:=jS a2
 have k3:=jS a3
 have p1:=tU w (n+4) 3 A (by omega) k1
 rw[f1] at p1
 have p2:=aU7 w (n+3) true 3 B 2 (by omega) k2
 rw[f2] at p2
 have p3:=VP w (n+2) 0 3 (5,[(false,D1)]) (Nat.le_of_ble_eq_true rfl) (fun r hr=>by rw[List.mem_singleton.1 hr];show RV D1∧D1.length≤_;exact ⟨k3,by omega⟩)
 rw[f3] at p3
 have q1:=jA w (n+2) tA (by decide)
 rw[rG f1] at q1
 have q2:=aS1 w (n+1) tB (by decide)
 rw[yE f2] at q2
 have q3:=bF1 w n tC (by decide)
 rw[PA f3] at q3
 have s1:=uC w (n+10) 3 2 A A (by omega) (by omega)
 rw[decide_eq_true rfl] at s1
 have s2:=uC w (n+10) 3 2 B B (by omega) (by omega)
 rw[decide_eq_true rfl] at s2
 have s3:=uC w (n+10) 3 2 D1 D1 (by omega) (by omega)
 rw[decide_eq_true rfl] at s3
 have r1:=EF w (n+1) rA (by decide) f4
 have r2:=EF w (n+1) rB (by decide) f5
 unfold vE at q1
 unfold OL at q2
 unfold aR3 at q3
 simp only at q1 q2 q3
 clear f1 f2 f3 f4 f5 a1 a2 a3 k1 k2 k3
 have dlr:E4 (W1 3 [(false,D1)]) (0*2+1) none=some (.sl 3 D1.length (s5 D1)):=(rfl)
 refine d6 rfl rfl (fun _ _=>rfl) (Nat.le_of_ble_eq_true rfl) (g9 w) rfl fun C hC h0=>?_
 simp (disch:=first|exact bd (by with_unfolding_all rfl)|fail) only[WA,Nat.reduceEqDiff,Nat.reduceLT,↓reduceIte,c24]
 refine k9 (by rw[hC];exact c1) rfl rfl (fun _=>rfl) ?_
 repeat' (first|(simp (disch:=fail) only[WA,l8,r5,Nat.reduceEqDiff,Nat.reduceLT,Nat.reduceAdd,Nat.reduceBEq,Int.reduceAdd,Int.reduceSub,Int.reduceLT,Int.reduceLE,Int.reduceEq,Int.reduceNeg,↓reduceIte,reduceCtorEq,List.replicate])|apply v8|((first|apply F3|apply y8|apply A7|apply F4|apply E9|apply A8)<;>intro _))
 refine a6 (by rw[hC];exact p1.flat rfl rfl) ?_
 simp (disch:=first|exact bd (by with_unfolding_all rfl)|(simp only[j4]<;>omega)) only[WA,Nat.reduceEqDiff,Nat.reduceLT,↓reduceIte]
 refine k9 (by rw[hC];exact c2) rfl rfl (fun _=>rfl) ?_
 simp (disch:=first|exact bd (by with_unfolding_all rfl)|(simp only[j4]<;>omega)) only[WA,Nat.reduceEqDiff,Nat.reduceLT,↓reduceIte]
 refine a6 (by rw[hC];exact p2.flat rfl rfl) ?_
 simp (disch:=first|exact bd (by with_unfolding_all rfl)|fail) only[WA,Nat.reduceEqDiff,Nat.reduceLT,↓reduceIte]
 refine k9 (by rw[hC];exact c3) rfl rfl (fun _=>rfl) ?_
 simp (disch:=first|exact bd (by with_unfolding_all rfl)|(simp only[j4]<;>omega)) only[WA,Nat.reduceEqDiff,Nat.reduceLT,↓reduceIte,ES]
 refine a6 (by rw[hC];exact p3.flat rfl rfl) ?_
 simp (disch:=first|exact bd (by with_unfolding_all rfl)|fail) only[WA,Nat.reduceEqDiff,Nat.reduceLT,↓reduceIte]
 refine k9 (by rw[hC];exact q1) rfl rfl (fun _=>rfl) ?_
 simp (disch:=first|exact bd (by with_unfolding_all rfl)|fail) only[WA,Nat.reduceEqDiff,Nat.reduceLT,↓reduceIte]
 refine k9 (by rw[hC];exact q2) rfl rfl (fun _=>rfl) ?_
 simp (disch:=first|exact bd (by with_unfolding_all rfl)|(simp only[j4]<;>omega)) only[WA,Nat.reduceEqDiff,Nat.reduceLT,Nat.reduceAdd,↓reduceIte,List.replicate]
 refine k9 (by rw[hC];exact q3) rfl rfl (fun _=>rfl) ?_
 simp (disch:=first|omega|exact bd (by with_unfolding_all rfl)|(simp only[j4]<;>omega)) only[WA,l8,r5,Nat.reduceEqDiff,Nat.reduceLT,Nat.reduceAdd,↓reduceIte,List.replicate,List.length_cons,List.length_nil]
 refine vB (by rw[hC];exact o1 _) ?_
 simp (disch:=fail) only[WA]
 refine Q1 (by rw[hC];exact s1.flat rfl (zD rfl)) ?_
 simp (disch:=first|exact bd (by with_unfolding_all rfl)|(simp only[j4]<;>omega)) only[WA,l8,r5,Nat.reduceEqDiff,Nat.reduceLT,Nat.reduceAdd,↓reduceIte]
 refine vB (by rw[hC];exact o2 _) ?_
 simp (disch:=fail) only[WA]
 refine Q1 (by rw[hC];exact s2.flat rfl (zD rfl)) ?_
 simp (disch:=first|omega|exact bd (by with_unfolding_all rfl)|(simp only[j4]<;>omega)) only[WA,l8,r5,Nat.reduceEqDiff,Nat.reduceLT,Nat.reduceAdd,↓reduceIte,AT,dlr]
 refine vB (by rw[hC];exact o3 _) ?_
 simp (disch:=fail) only[WA,AT,dlr]
 refine a6 (by rw[hC];exact s3.flat rfl (zD rfl)) ?_
 simp (disch:=first|exact bd (by with_unfolding_all rfl)|fail) only[WA,Nat.reduceEqDiff,Nat.reduceLT,↓reduceIte]
 refine a6 (by rw[hC];exact r1.flat rfl rfl) ?_
 simp (disch:=first|exact bd (by with_unfolding_all rfl)|fail) only[WA,Nat.reduceEqDiff,Nat.reduceLT,↓reduceIte,reduceCtorEq]
 refine a6 (by rw[hC];exact r2.flat rfl rfl) ?_
 repeat' (first|(simp (disch:=fail) only[WA,l8,r5,Nat.reduceEqDiff,Nat.reduceLT,Nat.reduceAdd,Nat.reduceBEq,Int.reduceAdd,Int.reduceSub,Int.reduceLT,Int.reduceLE,Int.reduceEq,Int.reduceNeg,↓reduceIte,reduceCtorEq,List.replicate])|apply v8|((first|apply F3|apply y8|apply A7|apply F4|apply E9|apply A8)<;>intro _))
 exact b8 rfl h0 rfl
end
set_option maxHeartbeats 1000000
theorem TU {s:List UInt8} (h:(F5 s).2 ≠ 0):F5 s=([],12):=by
 unfold F5 at h ⊢
 cases e:Y4 s with
 |none=>rfl
 |some L=>rw[e] at h;exact absurd rfl h
theorem aU5 {L:List o9} (h:(y7 L).2=0):M5 L=0:=by
 by_cases e:M5 L=0
 ·exact e
 ·unfold y7 at h
  rw[if_neg e] at h
  exact absurd h e
theorem bJ7 (w:World) (L:List o9) (hK:RV L) (s:List UInt8) (hL:L.length≤140737488351232) (hs:s.length≤140737488351232) {C:C5} (hC:C.E=EN w 12) (h0:C.w0.nx=0):
  gC C c6.code [] (R4 0 [.sl 3 L.length (s5 L),m9 s]) ⟨[],0,0⟩ (pX C c6.res (.sc (.bool true)) ⟨[],0,0⟩):=by
 have hsz:=p6 s
 have ha:=bB3 w 0
 have hg:=aU3 w 11 3 L hL
 cases hgb:TD L.length with
 |true=>
  rw[hgb] at hg
  simp (disch:=first|exact bd (by with_unfolding_all rfl)|fail) only[WA,Nat.reduceEqDiff,Nat.reduceLT,↓reduceIte,reduceCtorEq,c6,hsz]
  refine a6 (by rw[hC];exact ha.flat rfl rfl) ?_
  repeat' (first|(simp (disch:=fail) only[WA,l8,r5,Nat.reduceEqDiff,Nat.reduceLT,Nat.reduceAdd,Nat.reduceBEq,Int.reduceAdd,Int.reduceSub,Int.reduceLT,Int.reduceLE,Int.reduceEq,Int.reduceNeg,↓reduceIte,reduceCtorEq,List.replicate])|apply v8|((first|apply F3|apply y8|apply A7|apply F4|apply E9|apply A8)<;>intro _))
  refine a6 (by rw[hC];exact hg.flat rfl rfl) ?_
  simp (disch:=first|exact bd (by with_unfolding_all rfl)|fail) only[WA,Nat.reduceEqDiff,Nat.reduceLT,↓reduceIte,reduceCtorEq,hsz]
  all_goals try (exfalso;omega)
  all_goals exact b8 rfl h0 rfl
 |false=>
 rw[hgb] at hg
 by_cases hs2:2500<s.length
 ·simp (disch:=first|exact bd (by with_unfolding_all rfl)|fail) only[WA,Nat.reduceEqDiff,Nat.reduceLT,↓reduceIte,reduceCtorEq,c6,hsz]
  refine a6 (by rw[hC];exact ha.flat rfl rfl) ?_
  repeat' (first|(simp (disch:=fail) only[WA,l8,r5,Nat.reduceEqDiff,Nat.reduceLT,Nat.reduceAdd,Nat.reduceBEq,Int.reduceAdd,Int.reduceSub,Int.reduceLT,Int.reduceLE,Int.reduceEq,Int.reduceNeg,↓reduceIte,reduceCtorEq,List.replicate])|apply v8|((first|apply F3|apply y8|apply A7|apply F4|apply E9|apply A8)<;>intro _))
  refine a6 (by rw[hC];exact hg.flat rfl rfl) ?_
  simp (disch:=first|omega|exact bd (by with_unfolding_all rfl)|fail) only[WA,Nat.reduceEqDiff,Nat.reduceLT,↓reduceIte,reduceCtorEq,hsz]
  all_goals try (exfalso;omega)
  all_goals exact b8 rfl h0 rfl
 clear hgb
 have t1:=tU w 5 3 L hL hK
 have hcl:=vD (L:=L)
 have hp1:(y7 L).2=0→F5 (y7 L).1=(L,0):=fun h=>rG (Prod.ext rfl h)
 have q1:=fun h:(y7 L).2=0=>jA w 3 (y7 L).1 (by have:=hcl h;omega)
 have hl1:(y7 L).2=0→L.length≤200:=fun h=>(O0 (aU5 h)).1
 have p2:=jA w 3 s (by omega)
 have hM:=xX s
 have hbad:=TU (s:=s)
 have hok:=aC9 (t:=s)
 generalize F5 s=Q at*
 obtain ⟨M,e⟩:=Q
 simp only at hM hbad hok
 have hMl:=(O0 hM).1
 have hMK:=jS hM
 have s1:=fun h=>uC w 11 3 3 L L (by have:=hl1 h;omega) (by have:=hl1 h;omega)
 have t2:=tU w 5 3 M (by omega) hMK
 clear hM hl1
 generalize hT:y7 L=T at*
 obtain ⟨T,Te⟩:=T
 simp only at t1 hcl hp1 q1 s1
 unfold vE at p2
 simp only at p2
 by_cases hTe:Te=0
 ·subst hTe
  have q1:=q1 rfl
  rw[hp1 rfl] at q1
  have s1:=s1 rfl
  simp only[decide_true] at s1
  unfold vE at q1
  simp only at q1
  clear hp1 hcl
  by_cases he:e=0
  ·subst he
   rw[hok rfl] at t2
   clear hok hbad
   simp (disch:=first|exact bd (by with_unfolding_all rfl)|fail) only[WA,Nat.reduceEqDiff,Nat.reduceLT,↓reduceIte,reduceCtorEq,c6,hsz]
   refine a6 (by rw[hC];exact ha.flat rfl rfl) ?_
   repeat' (first|(simp (disch:=fail) only[WA,l8,r5,Nat.reduceEqDiff,Nat.reduceLT,Nat.reduceAdd,Nat.reduceBEq,Int.reduceAdd,Int.reduceSub,Int.reduceLT,Int.reduceLE,Int.reduceEq,Int.reduceNeg,↓reduceIte,reduceCtorEq,List.replicate])|apply v8|((first|apply F3|apply y8|apply A7|apply F4|apply E9|apply A8)<;>intro _))
   refine a6 (by rw[hC];exact hg.flat rfl rfl) ?_
   simp (disch:=first|omega|exact bd (by with_unfolding_all rfl)|fail) only[WA,Nat.reduceEqDiff,Nat.reduceLT,↓reduceIte,reduceCtorEq,hsz]
   all_goals try (exfalso;omega)
   refine a6 (by rw[hC];exact t1.flat rfl rfl) ?_
   simp (disch:=first|exact bd (by with_unfolding_all rfl)|(simp only[j4]<;>omega)) only[WA,Nat.reduceEqDiff,Nat.reduceLT,↓reduceIte,reduceCtorEq]
   refine k9 (by rw[hC];exact q1) rfl rfl (fun _=>rfl) ?_
   simp (disch:=first|exact bd (by with_unfolding_all rfl)|fail) only[WA,Nat.reduceEqDiff,Nat.reduceLT,↓reduceIte,reduceCtorEq]
   refine a6 (by rw[hC];exact s1.flat rfl rfl) ?_
   simp (disch:=first|exact bd (by with_unfolding_all rfl)|fail) only[WA,Nat.reduceEqDiff,Nat.reduceLT,↓reduceIte,reduceCtorEq]
   refine k9 (by rw[hC];exact p2) rfl rfl (fun _=>rfl) ?_
   simp (disch:=first|exact bd (by with_unfolding_all rfl)|fail) only[WA,Nat.reduceEqDiff,Nat.reduceLT,↓reduceIte]
   refine a6 (by rw[hC];exact t2.flat rfl rfl) ?_
   simp (disch:=first|exact bd (by with_unfolding_all rfl)|(simp only[j4]<;>omega)) only[WA,Nat.reduceEqDiff,Nat.reduceLT,↓reduceIte]
   exact b8 rfl h0 rfl
  ·have hb:=hbad he
   cases hb
   clear hok hbad
   simp (disch:=first|exact bd (by with_unfolding_all rfl)|fail) only[WA,Nat.reduceEqDiff,Nat.reduceLT,↓reduceIte,reduceCtorEq,c6,hsz]
   refine a6 (by rw[hC];exact ha.flat rfl rfl) ?_
   repeat' (first|(simp (disch:=fail) only[WA,l8,r5,Nat.reduceEqDiff,Nat.reduceLT,Nat.reduceAdd,Nat.reduceBEq,Int.reduceAdd,Int.reduceSub,Int.reduceLT,Int.reduceLE,Int.reduceEq,Int.reduceNeg,↓reduceIte,reduceCtorEq,List.replicate])|apply v8|((first|apply F3|apply y8|apply A7|apply F4|apply E9|apply A8)<;>intro _))
   refine a6 (by rw[hC];exact hg.flat rfl rfl) ?_
   simp (disch:=first|omega|exact bd (by with_unfolding_all rfl)|fail) only[WA,Nat.reduceEqDiff,Nat.reduceLT,↓reduceIte,reduceCtorEq,hsz]
   all_goals try (exfalso;omega)
   refine a6 (by rw[hC];exact t1.flat rfl rfl) ?_
   simp (disch:=first|exact bd (by with_unfolding_all rfl)|(simp only[j4]<;>omega)) only[WA,Nat.reduceEqDiff,Nat.reduceLT,↓reduceIte,reduceCtorEq]
   refine k9 (by rw[hC];exact q1) rfl rfl (fun _=>rfl) ?_
   simp (disch:=first|exact bd (by with_unfolding_all rfl)|fail) only[WA,Nat.reduceEqDiff,Nat.reduceLT,↓reduceIte,reduceCtorEq]
   refine a6 (by rw[hC];exact s1.flat rfl rfl) ?_
   simp (disch:=first|exact bd (by with_unfolding_all rfl)|fail) only[WA,Nat.reduceEqDiff,Nat.reduceLT,↓reduceIte,reduceCtorEq]
   refine k9 (by rw[hC];exact p2) rfl rfl (fun _=>rfl) ?_
   simp (disch:=first|omega|exact bd (by with_unfolding_all rfl)|(simp only[j4]<;>omega)) only[WA,Nat.reduceEqDiff,Nat.reduceLT,Int.reduceEq,↓reduceIte]
   exact b8 rfl h0 rfl
 ·clear hp1 hcl q1 s1
  by_cases he:e=0
  ·subst he
   rw[hok rfl] at t2
   clear hok hbad
   simp (disch:=first|exact bd (by with_unfolding_all rfl)|fail) only[WA,Nat.reduceEqDiff,Nat.reduceLT,↓reduceIte,reduceCtorEq,c6,hsz]
   refine a6 (by rw[hC];exact ha.flat rfl rfl) ?_
   repeat' (first|(simp (disch:=fail) only[WA,l8,r5,Nat.reduceEqDiff,Nat.reduceLT,Nat.reduceAdd,Nat.reduceBEq,Int.reduceAdd,Int.reduceSub,Int.reduceLT,Int.reduceLE,Int.reduceEq,Int.reduceNeg,↓reduceIte,reduceCtorEq,List.replicate])|apply v8|((first|apply F3|apply y8|apply A7|apply F4|apply E9|apply A8)<;>intro _))
   refine a6 (by rw[hC];exact hg.flat rfl rfl) ?_
   simp (disch:=first|omega|exact bd (by with_unfolding_all rfl)|fail) only[WA,Nat.reduceEqDiff,Nat.reduceLT,↓reduceIte,reduceCtorEq,hsz]
   all_goals try (exfalso;omega)
   refine a6 (by rw[hC];exact t1.flat rfl rfl) ?_
   simp (disch:=first|exact bd (by with_unfolding_all rfl)|fail) only[WA,Nat.reduceEqDiff,Nat.reduceLT,↓reduceIte,reduceCtorEq,hTe]
   refine k9 (by rw[hC];exact p2) rfl rfl (fun _=>rfl) ?_
   simp (disch:=first|exact bd (by with_unfolding_all rfl)|fail) only[WA,Nat.reduceEqDiff,Nat.reduceLT,↓reduceIte,reduceCtorEq]
   refine a6 (by rw[hC];exact t2.flat rfl rfl) ?_
   simp (disch:=first|exact bd (by with_unfolding_all rfl)|(simp only[j4]<;>omega)) only[WA,Nat.reduceEqDiff,Nat.reduceLT,↓reduceIte]
   exact b8 rfl h0 rfl
  ·have hb:=hbad he
   cases hb
   clear hok hbad
   simp (disch:=first|exact bd (by with_unfolding_all rfl)|fail) only[WA,Nat.reduceEqDiff,Nat.reduceLT,↓reduceIte,reduceCtorEq,c6,hsz]
   refine a6 (by rw[hC];exact ha.flat rfl rfl) ?_
   repeat' (first|(simp (disch:=fail) only[WA,l8,r5,Nat.reduceEqDiff,Nat.reduceLT,Nat.reduceAdd,Nat.reduceBEq,Int.reduceAdd,Int.reduceSub,Int.reduceLT,Int.reduceLE,Int.reduceEq,Int.reduceNeg,↓reduceIte,reduceCtorEq,List.replicate])|apply v8|((first|apply F3|apply y8|apply A7|apply F4|apply E9|apply A8)<;>intro _))
   refine a6 (by rw[hC];exact hg.flat rfl rfl) ?_
   simp (disch:=first|omega|exact bd (by with_unfolding_all rfl)|fail) only[WA,Nat.reduceEqDiff,Nat.reduceLT,↓reduceIte,reduceCtorEq,hsz]
   all_goals try (exfalso;omega)
   refine a6 (by rw[hC];exact t1.flat rfl rfl) ?_
   simp (disch:=first|exact bd (by with_unfolding_all rfl)|fail) only[WA,Nat.reduceEqDiff,Nat.reduceLT,↓reduceIte,reduceCtorEq,hTe]
   refine k9 (by rw[hC];exact p2) rfl rfl (fun _=>rfl) ?_
   simp (disch:=first|omega|exact bd (by with_unfolding_all rfl)|(simp only[j4]<;>omega)) only[WA,Nat.reduceEqDiff,Nat.reduceLT,Int.reduceEq,↓reduceIte,reduceCtorEq]
   exact b8 rfl h0 rfl
end Go.Proofs.YtimmmnanllcfoaaDoor
namespace Go.Proofs.YtimmmnanllcfoaaDoor
open Go Go.Itp
open Go.ChangeShapes Go.WideShapes Go.ChangeAt Go.RowKit
set_option linter.unusedVariables false
set_option maxRecDepth 100000
set_option maxHeartbeats 4000000
theorem aT6:reachBytes≤140737488351232:=by decide
abbrev bB1:={x:o9 // x.kind<256}
instance:Inhabited bB1:=⟨⟨tS,by decide⟩⟩
def bH0 (x:bB1):List Value:= [.int .u8 x.1.kind,.bool x.1.purl,.int .i64 x.1.a,.int .i64 x.1.b]
theorem bP0:Tryd.prog.cellsOf 48=4:=by kernel_rfl
theorem aI8:Tryd.prog.bytesOf 48=24:=by kernel_rfl
theorem bC6 {H:Type} {enc:TypeId × Value→H} {W:World} {held:Bool} (cs:List Value) (n:Nat) (y:DataW H × List MemPlace) (hl:cs.length=4) (h:DataW.trod enc Tryd.prog W 0 (fun _=>true) held n 48 cs=some y):∃ x:bB1,cs=bH0 x:=by
 obtain ⟨m,a0,a1,a2,a3,rfl,⟨y0,h0⟩,⟨y1,h1⟩,⟨y2,h2⟩,y3,h3⟩:=aL1 Tryd.underlying48 rfl rfl rfl rfl (by kernel_rfl) (by kernel_rfl) (by kernel_rfl) (by kernel_rfl) cs n y hl h
 obtain ⟨x0,k0,_,j0⟩:=DataW.trod_int Tryd.underlying5 h0
 obtain ⟨x1,k1⟩:=aL0 Tryd.underlying4 _ _ _ h1
 obtain ⟨x2,k2,_⟩:=DataW.trod_int Tryd.underlying3 h2
 obtain ⟨x3,k3,_⟩:=DataW.trod_int Tryd.underlying3 h3
 simp only[List.cons.injEq,and_true] at k0 k2 k3
 have b0:=wf8 j0
 obtain ⟨u0,rfl⟩:=Int.eq_ofNat_of_zero_le b0.1
 exact ⟨⟨⟨u0,x1,x2,x3⟩,by simp only;omega⟩,by rw[k0,k1,k2,k3];rfl⟩
def iT:List (String × DataW Unit):= [("math/bits.deBruijn32tab",Rows.laid_math_bits_deBruijn32tab),("math/bits.deBruijn64tab",Rows.laid_math_bits_deBruijn64tab),("internal/strconv.uint64pow10",Rows.laid_internal_strconv_uint64pow10),("unicode/utf8.acceptRanges",Rows.laid_unicode_utf8_acceptRanges),("unicode/utf8.first",Rows.laid_unicode_utf8_first)]
theorem TL (os:Os) (args:Array Value):laidMetH Tryd.prog iT ((World.laidAll Tryd.prog os iT).forCall (fun _ _=>0) ⟨#[],args,[]⟩).memory:=by
 rw[MakeChecks.laidMetH_plain _ _ _ (by kernel_rfl)]
 exact laidMet_laidAll _ (by kernel_rfl) (by kernel_rfl)
theorem BA (os:Os):(World.laidAll Tryd.prog os iT).Shaped Tryd.prog:=World.shaped_of_ZipB (by kernel_rfl) (by kernel_rfl)
theorem aE4 {l:List TypeId} {t:TypeId} (hall:(l.all fun u=> !Tryd.prog.wantsStandIn u)=true) (h:t ∈ l):Tryd.prog.wantsStandIn t=false:=by
 have:=List.all_eq_true.1 hall t h
 simpa using this
theorem JQ (os:Os) (started:os.Started) (H:Type) (enc:TypeId × Value→H):
  ReturnsInHanded {} Tryd.checked os 6 .any (fun w args=>(Rows.wordsBackSpec.pre enc Tryd.prog Tryd.f6 [] false w args∧laidMetH Tryd.prog iT w)∧sizedMet enc Tryd.prog Tryd.f6 (OpenSpec.ofChange Rows.wordsBackSpec) false w args)
   (Rows.wordsBackSpec.post enc Tryd.prog Tryd.f6 false true false false):=by
 refine aB1 (C:=Tryd.checked) (X:=fun w _=>laidMetH Tryd.prog iT w) (fun _ _ _ hh h=>h.of_heap hh) own started (by kernel_rfl) Tryd.func6
  (ChangeSpec.witness_shaped (enc:=enc) (C:=Tryd.checked) (os:=os) (X:=fun w _=>laidMetH Tryd.prog iT w) false (World.laidAll Tryd.prog os iT) #[.slice none 0 0,.string .empty] 8 (World.laidAll_os _ _ _) (BA os) (by kernel_rfl) (by kernel_rfl) (by kernel_rfl) (TL os _)) ?_
 intro W base args ds gs before hval0 hW hsz0 hL hsh
 have hval:∀ (j:Nat) t v,Tryd.f6.params[j]? =some t→args[j]? =some v→Value.okWide Tryd.prog W .any base t v:=hval0
 have hW':=hW
 obtain ⟨p,q,hA0,hV,rfl,hfz,hnd⟩:=hW
 have hA:DataW.TrodAll enc Tryd.prog W 0 (fun _=>true) true Tryd.f6.params.toList args.toList ds p:=hA0
 have hsz:(DataW.weightsEach Tryd.prog (Tryd.f6.params.toList++Rows.wordsBackSpec.plain.varTypes Tryd.prog) (ds++gs)).all (· ≤reachBytes)=true:=hsz0
 rw[Tryd.params6] at hA hval hsz
 obtain ⟨v0,vs0,d0,ds0,p0,q0,hargs,rfl,rfl,h0,r0⟩:=trodAll_cons hA
 obtain ⟨v1,vs1,d1,ds1,p1,q1,rfl,rfl,rfl,h1,r1⟩:=trodAll_cons r0
 obtain ⟨rfl,rfl,rfl⟩:=trodAll_nil r1
 obtain rfl:args=#[v0,v1]:=by cases args;simp_all
 have hr:=aT6
 obtain ⟨m0,hm0,hli0,hlr0⟩:=OZ (α:=bB1) (g:=bH0) (q:=4) (by decide) (fun a=>⟨rfl,fun c hc=>by simp[bH0] at hc;rcases hc with rfl|rfl|rfl|rfl<;>rfl⟩) Tryd.underlying22 bP0 (by rw[aI8];decide) (hval 0 22 v0 rfl rfl) h0 (AP (j:=0) hsz rfl rfl) (fun cs n y hl hy=>bC6 cs n y hl hy)
 rw[aI8] at hlr0
 obtain ⟨l0,hl0,hK0,hlen0⟩:∃ l:List o9,s5 l=m0.flatMap (fun a=>(bH0 a).map D.sc)∧RV l∧l.length=m0.length:=⟨m0.map (·.1),by simp only[s5,List.flatMap_map];rfl,fun x hx=>by obtain ⟨a,_,rfl⟩:=List.mem_map.1 hx;exact a.2,by simp⟩
 have hv0:b7 (aG8 (bV W)) (.sl 3 l0.length (s5 l0)) v0:=by rw[hl0,hlen0];exact hm0
 obtain ⟨s1,rfl,hs1⟩:=aQ7 Tryd.underlying9 (hval 1 9 v1 rfl rfl) h1 (AP (j:=1) hsz rfl rfl)
 obtain ⟨x1,rfl⟩:∃ x:List UInt8,s1=⟨x.toArray⟩:=⟨s1.data.toList,by simp⟩
 rw[p6] at hs1
 have hLm:laidMet Tryd.prog iT W:=by rw[← MakeChecks.laidMetH_plain _ _ _ (by kernel_rfl)];exact hL
 have hmx:BJ W:=cell_of_shapedOpen_int (P:=Tryd.prog) (g:=0) (t:=3) (zero:=#[.int .i64 0]) hsh (of_decide_eq_true (by kernel_rfl)) (by kernel_rfl) rfl (by kernel_rfl) (by kernel_rfl) Tryd.underlying3
 have htab0:Lib.TabIs Tryd.prog W "internal/strconv.uint64pow10" .u64 Lib.pow10Tab:=aP3 hLm 2 rfl (g:=1) (t:=145) (e:=135) (k:= .u64) (m:=20) (by kernel_rfl) (by kernel_rfl) Tryd.underlying145 Tryd.underlying135 (by kernel_rfl) (by kernel_rfl) rfl
 obtain ⟨s',hbody⟩:=cA4 (old:=bV W) (rounds:=E8) (fns:=fns) (prims:=PR W) (n:=12) (af:=c6) (xs:= [.sl 3 l0.length (s5 l0),.sc (.string ⟨x1.toArray⟩)]) (xsI:= [v0,.string ⟨x1.toArray⟩]) (x:= .bool true) (Nat.le_of_ble_eq_true rfl)
  (by simp only[d7];exact ⟨_,_,rfl,hv0,_,_,rfl,.mksc rfl,rfl⟩) fun C hC hn=>bJ7 W l0 hK0 x1 (by omega) (by omega) hC hn
 have hfn:fns 6=some c6:=rfl
 have hrv:r8 0 (.bool true)= []:=rfl
 refine (bQ6 (W:=W) ⟨htab0,hmx⟩ (f:=6) (af:=c6) hfn (xs:= [v0,.string ⟨x1.toArray⟩]) (by simp only[CZ,hli0];rfl) _ hbody hrv).mono fun e W' ⟨he,hbe⟩=>?_
 exact ⟨_,he,aP4 hW' rfl rfl (by kernel_rfl) (by kernel_rfl) Tryd.underlying4 hbe⟩
theorem VA:Rows.WordsBackSaid:=
 OpenClaim.holds_of_wide 6 Tryd.f6 rfl rfl rfl rfl rfl rfl rfl ⟨rfl,rfl,rfl,rfl,rfl⟩ rfl rfl rfl rfl rfl (by kernel_rfl) Tryd.func6 (by kernel_rfl)
  (of_decide_eq_true (by kernel_rfl)) (by unfold Func.isWrapper;first|(rw[if_pos (by decide+kernel)];kernel_rfl)|(rw[if_neg (by decide+kernel)];exact ⟨rfl,rfl⟩))
  (fun os started H enc _=>JQ os started H enc)
theorem wback_holds:Rows.WordsBackCardSaid:=
 Claim7.holds_tied_plain_at .later [] [.data,.data,.data,.data,.pinned] true _ false
  VA (fun _ h=>by cases h) (by kernel_rfl) (fun _ h=>by cases h) wordsBack_row_tie rfl ⟨rfl,rfl⟩ (by kernel_rfl) rfl
  (fun f fn hf hfn=>by
   obtain rfl:f=6:=Option.some.inj ((show Tryd.prog.funcNamed "raddle/raddlelaw41.WordsBack"=some 6 by kernel_rfl).symm.trans hf)|>.symm
   obtain rfl:fn=Tryd.f6:=(Option.some.inj (Tryd.func6.symm.trans hfn)).symm
   exact ⟨by kernel_rfl,fun j t ht=>aE4 (l:= [22,9]) (by kernel_rfl) (by rw[Tryd.params6] at ht;simpa using Array.mem_of_getElem? ht)⟩)
  (by kernel_rfl)
#print axioms wback_holds
end Go.Proofs.YtimmmnanllcfoaaDoor
