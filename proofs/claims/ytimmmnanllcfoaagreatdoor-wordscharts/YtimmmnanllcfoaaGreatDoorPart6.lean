/- What is proved: the law WordsCharts returns true for every input. Conditions: none beyond the card's own.
   Texts: Q41l, Q41m, Q41n, Q41o, Q41p, Q41q, Q41r, P41g, Q41u, Q41v, Q41w, Q42c, Q42d, Q42e, P41h, Q42f, Q42t, P41k, Q43a, Q43b, Q43c, Q43d.
-/
import Derived.Test.YtimmmnanllcfoaaGreatDoorPart5
import Derived.Test.YtimmmnanllcfoaaGreatDoorCards
import Derived.Test.YtimmmnanllcfoaaGreatDoorTie
import Derived.SizedLaws
import Derived.ChangeAt
import Derived.SevenTiedAt
import Derived.Stop.Joined
import Derived.Lay
namespace Go.Proofs.YtimmmnanllcfoaaGreatDoor
open Go Go.Itp
set_option maxRecDepth 100000
set_option maxHeartbeats 1000000
set_option linter.unusedSimpArgs false
set_option linter.unusedVariables false
section
variable (w:World) (n:Nat)
theorem bE6 (s:Nat) (L:List p7) (hL:L.length≤140737488351232) (hK:SU L):k8 (EN w (n+7)) 31 [.sl s L.length (A5 L)] (.tup [m6 (A0 L).1,.sc (.int .i64 (A0 L).2)]) ⟨[],0,0⟩:=by
 have ha:=JR w n s L hL hK
 unfold A0
 by_cases h0:K3 L=0
 ·rw[h0] at ha
  rw[if_pos h0]
  have hok:=Y2 h0
  have hw:=aB7 w (n+2) s L hok.1 hok.2.1
  generalize s9 L=W at*
  have hsz:=n4 W
  by_cases h2:2000<W.length
  ·rw[if_pos h2]
   refine b8 rfl rfl (fun _ _=>rfl) (Nat.le_of_ble_eq_true rfl) (d7 w) rfl fun C hC h0=>?_
   simp (disch:=first|exact f6|fail) only[WA,Nat.reduceEqDiff,Nat.reduceLT,↓reduceIte,reduceCtorEq,c31]
   refine a6 (by rw[hC];exact ha.flat rfl rfl) ?_
   simp (disch:=first|exact f6|fail) only[WA,Nat.reduceEqDiff,Nat.reduceLT,↓reduceIte,reduceCtorEq]
   refine a6 (by rw[hC];exact hw.flat rfl rfl) ?_
   simp (disch:=first|omega|exact f6|fail) only[WA,Nat.reduceEqDiff,Nat.reduceLT,↓reduceIte,hsz]
   all_goals try (exfalso;omega)
   exact b7 rfl h0 rfl
  ·rw[if_neg h2]
   refine b8 rfl rfl (fun _ _=>rfl) (Nat.le_of_ble_eq_true rfl) (d7 w) rfl fun C hC h0=>?_
   simp (disch:=first|exact f6|fail) only[WA,Nat.reduceEqDiff,Nat.reduceLT,↓reduceIte,reduceCtorEq,c31]
   refine a6 (by rw[hC];exact ha.flat rfl rfl) ?_
   simp (disch:=first|exact f6|fail) only[WA,Nat.reduceEqDiff,Nat.reduceLT,↓reduceIte,reduceCtorEq]
   refine a6 (by rw[hC];exact hw.flat rfl rfl) ?_
   simp (disch:=first|omega|exact f6|fail) only[WA,Nat.reduceEqDiff,Nat.reduceLT,↓reduceIte,hsz]
   all_goals try (exfalso;omega)
   exact b7 rfl h0 rfl
 ·rw[if_neg h0]
  generalize K3 L=e at*
  refine b8 rfl rfl (fun _ _=>rfl) (Nat.le_of_ble_eq_true rfl) (d7 w) rfl fun C hC h0=>?_
  simp (disch:=first|exact f6|fail) only[WA,Nat.reduceEqDiff,Nat.reduceLT,↓reduceIte,reduceCtorEq,c31]
  refine a6 (by rw[hC];exact ha.flat rfl rfl) ?_
  simp (disch:=first|omega|exact f6|fail) only[WA,Nat.reduceEqDiff,Nat.reduceLT,↓reduceIte,reduceCtorEq]
  all_goals try (exfalso;omega)
  exact b7 rfl h0 rfl
theorem PT (x:p7) (hk:x.kind<256):k8 (EN w (n+1)) 46 [gA x] (.sc (.int .i64 (if C9 x=true then 0 else 8))) ⟨[],0,0⟩:=by
 have go:∀ e:Int,(D1 x∧e=0)∨(¬ D1 x∧e=8)→k8 (EN w (n+1)) 46 [gA x] (.sc (.int .i64 e)) ⟨[],0,0⟩:=by
  obtain ⟨k,p,a,b⟩:=x
  unfold D1
  simp only at hk ⊢
  rcases (by omega:k=1∨k=2∨k=3∨k=4∨k=5∨k=6∨k=7∨k=8∨k=9∨k=10∨k=0∨10<k) with rfl|rfl|rfl|rfl|rfl|rfl|rfl|rfl|rfl|rfl|rfl|h10
  all_goals
   rintro e (⟨he,rfl⟩|⟨he,rfl⟩)
  all_goals
   cases p
  all_goals
   simp (config:={decide:=true}) only[reduceCtorEq,false_and,and_false,false_or,or_false,true_or,or_true,true_and,and_true,not_true_eq_false,not_false_eq_true] at he
  all_goals
   refine b8 rfl rfl (fun _ _=>rfl) (Nat.le_of_ble_eq_true rfl) (d7 w) rfl fun C hC h0=>?_
   repeat' (first|(simp (disch:=first|omega|exact f6|fail) only[WA,Nat.reduceEqDiff,Nat.reduceLT,↓reduceIte,reduceCtorEq,c46])|(apply y9<;>intro _))
  all_goals try (exfalso;omega)
  all_goals exact b7 rfl h0 rfl
 refine go _ ?_
 by_cases h:D1 x
 ·exact .inl ⟨h,by rw[if_pos (B4.2 h)]⟩
 ·exact .inr ⟨h,by rw[if_neg fun hh=>h (B4.1 hh)]⟩
theorem bI9 (x:p7) (hx:D1 x):k8 (EN w (n+1)) 64 [gA x] (.sc (.int .i64 (P8 x))) ⟨[],0,0⟩∧k8 (EN w (n+1)) 65 [gA x] (.sc (.int .i64 (P7 x))) ⟨[],0,0⟩:=by
 have hb:=hx.bounds
 obtain ⟨k,p,a,b⟩:=x
 simp only at hb
 clear hx
 constructor
 all_goals
  rcases (by omega:k=1∨k=2∨k=3∨k=4∨k=5∨k=6∨k=7∨k=8∨k=9∨k=10) with rfl|rfl|rfl|rfl|rfl|rfl|rfl|rfl|rfl|rfl
  all_goals
   refine b8 rfl rfl (fun _ _=>rfl) (Nat.le_of_ble_eq_true rfl) (d7 w) rfl fun C hC h0=>?_
   repeat' (first|(simp (disch:=first|omega|exact f6|fail) only[WA,Nat.reduceEqDiff,Nat.reduceLT,↓reduceIte,reduceCtorEq,c64,c65]))
   exact b7 rfl h0 rfl
theorem bI8 (s:Nat) (L:List p7) (hL:L.length≤200) (hok:L.all C9=true):k8 (EN w (n+2)) 47 [.sl s L.length (A5 L)] (.tup [.sc (.int .i64 (Q4 P8 L)),.sc (.int .i64 (Q4 P7 L))]) ⟨[],0,0⟩:=by
 refine b8 rfl rfl (fun _ _=>rfl) (Nat.le_of_ble_eq_true rfl) (d7 w) rfl fun C hC h0=>?_
 have hrn:C.E.rounds=A4:=by rw[hC,j5]
 have hil:=G3 L
 simp (disch:=first|exact f6|fail) only[WA,Nat.reduceEqDiff,Nat.reduceLT,↓reduceIte,reduceCtorEq,c47]
 all_goals try (exfalso;omega)
 refine s8 (fun m fr st=>∃ (k:Nat),m=L.length - k∧k≤L.length∧fr= [(0,.sl s L.length (A5 L)),(4,.sc (.int .i64 (Q4 P8 (L.take k)))),(5,.sc (.int .i64 (Q4 P7 (L.take k)))),(6,.sc (.int .i64 k))]∧st=⟨[],0,0⟩) L.length ?_ ⟨_,_,.refl _ _,0,by omega,Nat.zero_le _,rfl,rfl⟩ ?_
 ·rw[hrn];unfold A4;omega
 rintro m fr st ⟨k,rfl,hk,rfl,rfl⟩
 by_cases hlt:k<L.length
 case neg=>
  have:k=L.length:=by omega
  subst this
  rw[List.take_length]
  simp (disch:=first|omega|exact f6|fail) only[WA,Nat.reduceEqDiff,Nat.reduceLT,↓reduceIte,reduceCtorEq,aL7]
  all_goals try (exfalso;omega)
  exact b7 rfl h0 rfl
 have hag:=M0 L k hlt
 have u1:=lM (f:=P8) hlt
 have u2:=lM (f:=P7) hlt
 have htk:∀ x ∈ L.take k,D1 x:=fun x hx=>B4.1 (List.all_eq_true.1 hok x (List.mem_of_mem_take hx))
 have b1:=lN (f:=P8) fun x hx=>(Y1 (htk x hx)).1
 have b2:=lN (f:=P7) fun x hx=>(Y1 (htk x hx)).2
 have hl2:(L.take k).length≤200:=by rw[List.length_take];omega
 have hx:D1 L[k]! :=B4.1 (List.all_eq_true.1 hok _ (by rw[getElem!_pos _ k hlt];exact List.getElem_mem hlt))
 generalize L[k]! =X at*
 have c1:=Y1 hx
 obtain ⟨l1,l2⟩:=bI9 w n X hx
 generalize Q4 P8 (L.take k)=U at*
 generalize Q4 P7 (L.take k)=M at*
 generalize P8 X=uu at*
 generalize P7 X=mm at*
 obtain ⟨xk,xp,xa,xb⟩:=X
 simp (disch:=first|omega|exact f6|fail) only[WA,Nat.reduceEqDiff,Nat.reduceLT,↓reduceIte,reduceCtorEq,aL7,hag]
 all_goals try (exfalso;omega)
 refine a6 (by rw[hC];exact l1.flat rfl rfl) ?_
 simp (disch:=first|omega|exact f6|fail) only[WA,Nat.reduceEqDiff,Nat.reduceLT,↓reduceIte,reduceCtorEq,hag]
 refine a6 (by rw[hC];exact l2.flat rfl rfl) ?_
 simp (disch:=first|omega|exact f6|fail) only[WA,Nat.reduceEqDiff,Nat.reduceLT,↓reduceIte,reduceCtorEq]
 all_goals try (exfalso;omega)
 refine ⟨L.length - (k+1),_,_,by omega,.refl _ _,k+1,rfl,by omega,?_,rfl⟩
 rw[u1,u2]
 rfl
theorem JH (s:Nat) (L:List p7) (hL:L.length≤140737488351232) (hK:SU L):k8 (EN w (n+3)) 27 [.sl s L.length (A5 L)] (.sc (.int .i64 (K3 L))) ⟨[],0,0⟩:=by
 refine b8 rfl rfl (fun _ _=>rfl) (Nat.le_of_ble_eq_true rfl) (d7 w) rfl fun C hC h0=>?_
 have hrn:C.E.rounds=A4:=by rw[hC,j5]
 have hil:=G3 L
 unfold K3
 by_cases h2:200<L.length
 ·rw[if_pos h2]
  simp (disch:=first|omega|exact f6|fail) only[WA,Nat.reduceEqDiff,Nat.reduceLT,↓reduceIte,reduceCtorEq,c27]
  all_goals try (exfalso;omega)
  exact b7 rfl h0 rfl
 rw[if_neg h2]
 simp (disch:=first|omega|exact f6|fail) only[WA,Nat.reduceEqDiff,Nat.reduceLT,↓reduceIte,reduceCtorEq,c27]
 all_goals try (exfalso;omega)
 refine s8 (fun m fr st=>∃ (k:Nat),m=L.length - k∧k≤L.length∧(L.take k).all C9=true∧fr= [(0,.sl s L.length (A5 L)),(3,.sc (.int .i64 k))]∧st=⟨[],0,0⟩) L.length ?_ ⟨_,_,.refl _ _,0,by omega,Nat.zero_le _,rfl,rfl,rfl⟩ ?_
 ·rw[hrn];unfold A4;omega
 rintro m fr st ⟨k,rfl,hk,hall,rfl,rfl⟩
 by_cases hlt:k<L.length
 ·have hag:=M0 L k hlt
  have hc:=PT w (n+1) L[k]! (hK.at hlt)
  cases hx:C9 L[k]! with
  |true=>
   have hst:=FV hlt hall hx
   rw[hx,if_pos rfl] at hc
   generalize L[k]! =X at*
   obtain ⟨xk,xp,xa,xb⟩:=X
   simp (disch:=first|omega|exact f6|fail) only[WA,Nat.reduceEqDiff,Nat.reduceLT,↓reduceIte,reduceCtorEq,LM,hag]
   all_goals try (exfalso;omega)
   refine a6 (by rw[hC];exact hc.flat rfl rfl) ?_
   simp (disch:=first|omega|exact f6|fail) only[WA,Nat.reduceEqDiff,Nat.reduceLT,↓reduceIte,reduceCtorEq]
   exact ⟨L.length - (k+1),_,_,by omega,.refl _ _,k+1,rfl,by omega,hst,rfl,rfl⟩
  |false=>
   rw[if_neg (QZ hlt hx)]
   rw[hx,if_neg (by decide)] at hc
   generalize L[k]! =X at*
   obtain ⟨xk,xp,xa,xb⟩:=X
   simp (disch:=first|omega|exact f6|fail) only[WA,Nat.reduceEqDiff,Nat.reduceLT,↓reduceIte,reduceCtorEq,LM,hag]
   all_goals try (exfalso;omega)
   refine a6 (by rw[hC];exact hc.flat rfl rfl) ?_
   simp (disch:=first|exact f6|(simp only[i6]<;>omega)) only[WA,Nat.reduceEqDiff,Nat.reduceLT,Int.reduceEq,↓reduceIte,reduceCtorEq]
   exact b7 rfl h0 rfl
 ·have:k=L.length:=by omega
  subst this
  rw[List.take_length] at hall
  rw[if_pos hall]
  have hs:=bI8 w n s L (by omega) hall
  generalize Q4 P8 L=U at*
  generalize Q4 P7 L=M at*
  by_cases hm:200<U∨200<M
  ·rw[if_pos hm]
   simp (disch:=first|omega|exact f6|fail) only[WA,Nat.reduceEqDiff,Nat.reduceLT,↓reduceIte,reduceCtorEq,LM]
   all_goals try (exfalso;omega)
   refine a6 (by rw[hC];exact hs.flat rfl rfl) ?_
   repeat' (first|(simp (disch:=first|omega|exact f6|fail) only[WA,Nat.reduceEqDiff,Nat.reduceLT,↓reduceIte,reduceCtorEq])|(apply y9<;>intro _))
   all_goals try (exfalso;omega)
   all_goals exact b7 rfl h0 rfl
  ·rw[if_neg hm]
   simp (disch:=first|omega|exact f6|fail) only[WA,Nat.reduceEqDiff,Nat.reduceLT,↓reduceIte,reduceCtorEq,LM]
   all_goals try (exfalso;omega)
   refine a6 (by rw[hC];exact hs.flat rfl rfl) ?_
   simp (disch:=first|omega|exact f6|fail) only[WA,Nat.reduceEqDiff,Nat.reduceLT,↓reduceIte,reduceCtorEq]
   all_goals try (exfalso;omega)
   all_goals exact b7 rfl h0 rfl
theorem bI7 (s t:Nat) (L M:List p7) (hL:L.length≤140737488351232) (hM:M.length≤140737488351232):k8 (EN w (n+1)) 28 [.sl s L.length (A5 L),.sl t M.length (A5 M)] (.sc (.bool (decide (L=M)))) ⟨[],0,0⟩:=by
 have hil:=G3 L
 have him:=G3 M
 by_cases hlen:L.length=M.length
 case neg=>
  rw[decide_eq_false fun h=>hlen (by rw[h])]
  refine b8 rfl rfl (fun _ _=>rfl) (Nat.le_of_ble_eq_true rfl) (d7 w) rfl fun C hC h0=>?_
  simp (disch:=first|omega|exact f6|fail) only[WA,Nat.reduceEqDiff,Nat.reduceLT,↓reduceIte,reduceCtorEq,c28]
  all_goals try (exfalso;omega)
  exact b7 rfl h0 rfl
 refine b8 rfl rfl (fun _ _=>rfl) (Nat.le_of_ble_eq_true rfl) (d7 w) rfl fun C hC h0=>?_
 have hrn:C.E.rounds=A4:=by rw[hC,j5]
 simp (disch:=first|omega|exact f6|fail) only[WA,Nat.reduceEqDiff,Nat.reduceLT,↓reduceIte,reduceCtorEq,c28]
 all_goals try (exfalso;omega)
 refine s8 (fun m fr st=>∃ (k:Nat),m=L.length - k∧k≤L.length∧(∀ j,j<k→L[j]! =M[j]!)∧fr= [(0,.sl s L.length (A5 L)),(1,.sl t M.length (A5 M)),(5,.sc (.int .i64 k))]∧st=⟨[],0,0⟩) L.length ?_ ⟨_,_,.refl _ _,0,by omega,Nat.zero_le _,fun j hj=>absurd hj (Nat.not_lt_zero _),rfl,rfl⟩ ?_
 ·rw[hrn];unfold A4;omega
 rintro m fr st ⟨k,rfl,hk,heq,rfl,rfl⟩
 by_cases hlt:k<L.length
 ·have hag:=M0 L k hlt
  have hag2:=M0 M k (by omega)
  by_cases hx:L[k]! =M[k]!
  ·have hnx:∀ j,j<k+1→L[j]! =M[j]! :=fun j hj=>by
    rcases Nat.lt_succ_iff_lt_or_eq.1 hj with h|h
    ·exact heq j h
    ·rw[h];exact hx
   rw[hx] at hag
   generalize M[k]! =X at*
   obtain ⟨xk,xp,xa,xb⟩:=X
   simp (disch:=first|omega|exact f6|(simp only[i6]<;>omega)) only[WA,l6,p8,Nat.reduceEqDiff,Nat.reduceLT,↓reduceIte,reduceCtorEq,WO,hag,hag2,↓bC]
   all_goals try (exfalso;omega)
   exact ⟨L.length - (k+1),_,_,by omega,.refl _ _,k+1,rfl,by omega,hnx,rfl,rfl⟩
  ·have hd:decide (L=M)=false:=decide_eq_false fun h=>hx (by rw[h])
   rw[hd]
   have hdd:=decide_eq_false hx
   generalize L[k]! =X at*
   generalize M[k]! =Y at*
   obtain ⟨xk,xp,xa,xb⟩:=X
   obtain ⟨yk,yp,ya,yb⟩:=Y
   simp (disch:=first|omega|exact f6|fail) only[WA,l6,p8,Nat.reduceEqDiff,Nat.reduceLT,↓reduceIte,reduceCtorEq,WO,hag,hag2,↓bC,hdd]
   all_goals try (exfalso;omega)
   exact b7 rfl h0 rfl
 ·have hd:decide (L=M)=true:=decide_eq_true (List.ext_getElem hlen fun j h1 h2=>by
   have:=heq j (by omega)
   rwa [getElem!_pos L j h1,getElem!_pos M j h2] at this)
  rw[hd]
  simp (disch:=first|omega|exact f6|fail) only[WA,Nat.reduceEqDiff,Nat.reduceLT,↓reduceIte,reduceCtorEq,WO]
  all_goals try (exfalso;omega)
  exact b7 rfl h0 rfl
def rI (l:Nat):Bool:=decide (60<l∧l≤200∨300<l)
theorem aX1 (s:Nat) (L:List p7) (hL:L.length≤140737488351232):k8 (EN w (n+1)) 12 [.sl s L.length (A5 L)] (.sc (.bool (rI L.length))) ⟨[],0,0⟩:=by
 unfold rI
 have go:∀ b:Bool,((60<L.length∧L.length≤200∨300<L.length)∧b=true)∨(¬ (60<L.length∧L.length≤200∨300<L.length)∧b=false)→k8 (EN w (n+1)) 12 [.sl s L.length (A5 L)] (.sc (.bool b)) ⟨[],0,0⟩:=by
  rintro b (⟨h,rfl⟩|⟨h,rfl⟩)
  all_goals
   refine b8 rfl rfl (fun _ _=>rfl) (Nat.le_of_ble_eq_true rfl) (d7 w) rfl fun C hC h0=>?_
   repeat' (first|(simp (disch:=first|omega|exact f6|fail) only[WA,Nat.reduceEqDiff,Nat.reduceLT,↓reduceIte,reduceCtorEq,c12])|(apply y9<;>intro _))
   all_goals try (exfalso;omega)
   all_goals exact b7 rfl h0 rfl
 by_cases h:60<L.length∧L.length≤200∨300<L.length
 ·exact go _ (.inl ⟨h,decide_eq_true h⟩)
 ·exact go _ (.inr ⟨h,decide_eq_false h⟩)
end
set_option maxHeartbeats 2000000
theorem MF (x:Nat):Lib.decDigits x=(if x / 10=0 then [] else Lib.decDigits (x / 10))++ [UInt8.ofNat (48+x % 10)]:=by
 by_cases h:x<10
 ·rw[Lib.decDigits,dif_pos h,if_pos (by omega),show x % 10=x by omega];rfl
 ·rw[Lib.decDigits,dif_neg h,if_neg (by omega)]
theorem bF3 {b:UInt8} (h:A6 b=true):Lib.digitVal b=some (b.toNat - 48):=by
 simp only[A6,Bool.and_eq_true,decide_eq_true_eq] at h
 unfold Lib.digitVal
 rw[if_pos h]
section
variable (w:World) (n:Nat)
theorem aD3 (x:Nat) (hx:x≤1000000000000):k8 (EN w (n+1)) 18 [.sc (.int .i64 x)] (m6 (Lib.decDigits x)) ⟨[],0,0⟩:=by
 refine b8 rfl rfl (fun _ _=>rfl) (Nat.le_of_ble_eq_true rfl) (d7 w) rfl fun C hC h0=>?_
 have hs1:∀ (c:UInt8) (s:List UInt8),s.length≤2000000000000→(ByteArray.mk [c].toArray).size+(ByteArray.mk s.toArray).size<9223372036854775807:=fun c s h=>by
  show 1+s.toArray.size<_
  simp;omega
 have e1:(x:Int) % 10=((x % 10:Nat):Int):=by omega
 have e2:(x:Int) / 10=((x / 10:Nat):Int):=by omega
 have e4:(48:Int)+((x % 10:Nat):Int)=((48+x % 10:Nat):Int):=by omega
 have e3:=GZ (48+x % 10) (by omega)
 have e5:=WJ (o:=0) (t:=5) (g:=false) (z:=false) (H:= [(0,.row 5 1 false false [.sc (.int .u8 ((48+x % 10:Nat):Int))])]) (48+x % 10) (by omega) rfl 1
 simp (disch:=first|omega|exact f6|fail) only[WA,Nat.reduceEqDiff,Nat.reduceLT,↓reduceIte,reduceCtorEq,c18,e1,e2,e4,e3,e5]
 refine s8 (fun m fr st=>∃ (k:Nat) (s:List UInt8),m=k∧k≤x∧Lib.decDigits x=(if k=0 then [] else Lib.decDigits k)++s∧s.length+k≤x+1∧fr= [(0,.sc (.int .i64 k)),(3,m6 s)]∧st=⟨[],0,0⟩) (x / 10) ?_ ⟨_,_,p9 [] 0 h0 rfl rfl rfl rfl,x / 10,[UInt8.ofNat (48+x % 10)],?_⟩ ?_
 ·rw[hC,j5];unfold A4;omega
 ·exact ⟨rfl,by omega,MF x,by simp;omega,rfl,rfl⟩
 rintro k fr st ⟨_,s,rfl,hk,hd,hsl,rfl,rfl⟩
 by_cases hlt:0<k
 ·rw[if_neg (by omega),MF k] at hd
  have e1:(k:Int) % 10=((k % 10:Nat):Int):=by omega
  have e2:(k:Int) / 10=((k / 10:Nat):Int):=by omega
  have e4:(48:Int)+((k % 10:Nat):Int)=((48+k % 10:Nat):Int):=by omega
  have e3:=GZ (48+k % 10) (by omega)
  have e5:=WJ (o:=0) (t:=5) (g:=false) (z:=false) (H:= [(0,.row 5 1 false false [.sc (.int .u8 ((48+k % 10:Nat):Int))])]) (48+k % 10) (by omega) rfl 1
  simp (disch:=first|omega|exact f6|fail) only[WA,Nat.reduceEqDiff,Nat.reduceLT,↓reduceIte,reduceCtorEq,aL4,e1,e2,e4,e3,e5,aK9 _ _ (hs1 (UInt8.ofNat (48+k % 10)) s (by omega)),CK]
  all_goals try (exfalso;omega)
  refine ⟨_,_,_,?_,p9 [] 0 h0 rfl rfl rfl rfl,k / 10,UInt8.ofNat (48+k % 10)::s,rfl,by omega,?_,by simp;omega,?_,?_⟩
  ·omega
  ·rw[hd];simp
  ·simp[yX,aD]
  ·simp[BV]
 ·have:k=0:=by omega
  subst this
  rw[hd]
  simp (disch:=first|omega|exact f6|fail) only[WA,Nat.reduceEqDiff,Nat.reduceLT,↓reduceIte,reduceCtorEq,aL4]
  all_goals try (exfalso;omega)
  exact b7 rfl h0 rfl
def tS (r:Option Int):V:= .tup [.sc (.int .i64 (r.getD 0)),.sc (.bool r.isSome)]
theorem YS (l:List UInt8) (hl:l.length≤1000000):k8 (EN w (n+1)) 24 [m6 l] (tS (I9 l)) ⟨[],0,0⟩:=by
 refine b8 rfl rfl (fun _ _=>rfl) (Nat.le_of_ble_eq_true rfl) (d7 w) (by cases I9 l<;>rfl) fun C hC h0=>?_
 have hsz:=n4 l
 have no:¬ (l ≠ []∧l.length≤4∧(1<l.length→l[0]! ≠ 48)∧l.all A6=true)→I9 l=none:=fun h=>by unfold I9;rw[if_neg h]
 by_cases h1:l.length=0∨4<l.length
 ·rw[no (fun h=>by
   have:=List.length_pos_iff.2 h.1
   omega)]
  repeat' (first|(simp (disch:=first|omega|exact f6|fail) only[WA,Nat.reduceEqDiff,Nat.reduceLT,↓reduceIte,reduceCtorEq,c24,tS])|(apply y9<;>intro _))
  all_goals try (exfalso;omega)
  all_goals exact b7 rfl h0 rfl
 have hb0:=U8 l .i64 (0:Nat) (by omega) (by omega)
 have hx48:((l[0]!.toNat:Nat):Int)=48↔l[0]! =48:=by
  constructor
  ·intro h;apply UInt8.toNat_inj.1;rw[show (48:UInt8).toNat=48 by rfl];omega
  ·intro h;rw[h];rfl
 rw[Int.toNat_natCast] at hb0
 simp only[Int.natCast_zero] at hb0
 by_cases h2:1<l.length∧l[0]! =48
 ·rw[no (fun h=>h.2.2.1 h2.1 h2.2)]
  have h3:=hx48.2 h2.2
  generalize l[0]!.toNat=B at*
  simp (disch:=first|omega|exact f6|fail) only[WA,Nat.reduceEqDiff,Nat.reduceLT,↓reduceIte,reduceCtorEq,c24,tS,hb0]
  all_goals try (exfalso;omega)
  all_goals exact b7 rfl h0 rfl
 have h3:1<l.length→¬ ((l[0]!.toNat:Nat):Int)=48:=fun h hh=>h2 ⟨h,hx48.1 hh⟩
 have h3:¬ 1<l.length∨¬ ((l[0]!.toNat:Nat):Int)=48:=by
  by_cases h:1<l.length
  ·exact .inr (h3 h)
  ·exact .inl h
 have hR:l.all A6=true→I9 l=some (((Lib.decFrom 0 l).getD 0:Nat):Int):=fun h=>by
  unfold I9
  rw[if_pos ⟨List.length_pos_iff.1 (by omega),by omega,fun h5=>fun h6=>h2 ⟨h5,h6⟩,h⟩]
 generalize l[0]!.toNat=B at hb0 h3
 repeat' (first|(simp (disch:=first|omega|exact f6|fail) only[WA,Nat.reduceEqDiff,Nat.reduceLT,↓reduceIte,reduceCtorEq,c24,hb0])|(apply y9<;>intro _))
 all_goals try (exfalso;omega)
 all_goals
  refine s8 (fun m fr st=>∃ k u:Nat,m=l.length - k∧k≤l.length∧u<10 ^ k∧(∀ j,j<k→A6 l[j]! =true)∧Lib.decFrom 0 (l.take k)=some u∧fr= [(0,m6 l),(4,.sc (.int .i64 u)),(5,.sc (.int .i64 k))]∧st=⟨[],0,0⟩) l.length ?_ ⟨_,_,.refl _ _,0,0,?_⟩ ?_
  ·rw[hC,j5];unfold A4;omega
  ·exact ⟨by omega,by omega,by decide,(fun j hj=>absurd hj (Nat.not_lt_zero _)),rfl,rfl,rfl⟩
  rintro m fr st ⟨k,u,rfl,hk,hu,hd,hf,rfl,rfl⟩
  have hu9:u<10000:=Nat.lt_of_lt_of_le hu (by have:=Nat.pow_le_pow_right (show 1≤10 by omega) (show k≤4 by omega);simpa using this)
  by_cases hlt:k<l.length
  ·have hb:=U8 l .i64 k (by omega) (by omega)
   rw[Int.toNat_natCast] at hb
   by_cases hdg:A6 l[k]! =true
   ·have hdg1:=hdg
    have hv:=bF3 hdg
    have hstep:=Lib.decFrom_take l k 0 u l[k]! _ hf (by rw[List.getElem?_eq_getElem hlt,getElem!_pos l k hlt]) hv
    have hnx:=mB hd hdg
    simp only[A6,Bool.and_eq_true,decide_eq_true_eq] at hdg1
    generalize l[k]!.toNat=b at hb hstep hdg1
    have e1:IntKind.u8.wrap ((b:Int) - 48)=((b - 48:Nat):Int):=by rw[uW _ (by omega) (by omega)];omega
    repeat' (first|(simp (disch:=first|omega|exact f6|fail) only[WA,Nat.reduceEqDiff,Nat.reduceLT,↓reduceIte,reduceCtorEq,WN,hb,e1]))
    all_goals try (exfalso;omega)
    refine ⟨_,_,_,by omega,.refl _ _,k+1,u*10+(b - 48),rfl,hlt,?_,hnx,hstep,?_,rfl⟩
    ·rw[Nat.pow_succ];omega
    ·have:(10:Int)*u+((b - 48:Nat):Int)=((u*10+(b - 48):Nat):Int):=by omega
     rw[this];simp
   ·have e:I9 l=none:=no fun h=>hdg (List.all_eq_true.1 h.2.2.2 l[k]! (by rw[getElem!_pos l k hlt];exact List.getElem_mem hlt))
    rw[e]
    have hdg2:¬ (48≤l[k]!.toNat∧l[k]!.toNat≤57):=fun h=>hdg (by simp only[A6,Bool.and_eq_true,decide_eq_true_eq];exact h)
    generalize l[k]!.toNat=b at hb hdg2
    repeat' (first|(simp (disch:=first|omega|exact f6|fail) only[WA,Nat.reduceEqDiff,Nat.reduceLT,↓reduceIte,reduceCtorEq,WN,hb,tS])|(apply y9<;>intro _))
    all_goals try (exfalso;omega)
    all_goals exact b7 rfl h0 rfl
  ·have:k=l.length:=by omega
   subst this
   rw[List.take_length] at hf
   have hall:l.all A6=true:=List.all_eq_true.2 fun c hc=>by
    obtain ⟨i,hi,rfl⟩:=List.getElem_of_mem hc
    have:=hd i hi
    rw[getElem!_pos l i hi] at this
    exact this
   rw[hR hall,hf]
   repeat' (first|(simp (disch:=first|omega|exact f6|fail) only[WA,Nat.reduceEqDiff,Nat.reduceLT,↓reduceIte,reduceCtorEq,WN,tS,Option.getD]))
   exact b7 rfl h0 rfl
theorem bV0 (l:List UInt8) (c:UInt8) (hl:l.length≤1000000):k8 (EN w (n+1)) 23 [m6 l,.sc (.int .u8 c.toNat)] (.gr 2 0 (n9 c l).length) ⟨[(0,.gro 9 1 false ((n9 c l).map sD))],1,0⟩:=by
 refine A2 rfl rfl (fun _ _=>rfl) (Nat.le_of_ble_eq_true rfl) (d7 w) (aX0 (OL rfl)) rfl fun C hC h0=>?_
 have hrn:C.E.rounds=A4:=by rw[hC,j5]
 have hsz:=n4 l
 simp (disch:=first|exact f6|fail) only[WA,Nat.reduceEqDiff,Nat.reduceLT,↓reduceIte,reduceCtorEq,c23]
 refine s8 (fun m fr st=>∃ (dn:List (List UInt8)) (p x r:List UInt8),m=r.length+1∧l=p++(x++r)∧c ∉ x∧n9 c l=dn++n9 c (x++r)∧fr= [(0,m6 l),(1,.sc (.int .u8 c.toNat)),(5,.gr 2 0 dn.length),(6,.sc (.int .i64 p.length)),(7,.sc (.int .i64 ((p.length+x.length:Nat):Int)))]∧st=⟨[(0,.gro 9 1 false (dn.map sD))],1,0⟩∨(m=0∧dn=n9 c l∧fr= [(0,m6 l),(1,.sc (.int .u8 c.toNat)),(5,.gr 2 0 dn.length),(6,.sc (.int .i64 ((l.length:Int)+1))),(7,.sc (.int .i64 ((l.length:Int)+1)))]∧st=⟨[(0,.gro 9 1 false (dn.map sD))],1,0⟩)) (l.length+1) ?_ ⟨_,_,L3 5 9 1 rfl,[],[],[],l,.inl ⟨rfl,rfl,by simp,rfl,rfl,rfl⟩⟩ ?_
 ·rw[hrn];unfold A4;omega
 rintro m fr st ⟨dn,p,x,r,⟨rfl,hlp,hx,hw,rfl,rfl⟩|⟨rfl,rfl,rfl,rfl⟩⟩
 case inr=>
  simp (disch:=first|omega|exact f6|fail) only[WA,Nat.reduceEqDiff,Nat.reduceLT,↓reduceIte,reduceCtorEq,LL]
  all_goals try (exfalso;omega)
  exact .refl _ _
 have hll:l.length=p.length+(x.length+r.length):=by rw[hlp];simp
 have hwl:=(words_len (c:=c) l.length (s:=l) (Nat.le_refl _)).1
 have hdl:dn.length≤l.length:=by
  have h1:=congrArg List.length hw
  have h2:=List.length_pos_iff.2 (eN c (x++r))
  rw[List.length_append] at h1
  omega
 have hdm:(dn.map sD).length=dn.length:=by rw[List.length_map]
 have e1:=sC l .i64 .i64 (p.length:Int) ((p.length+x.length:Nat):Int) (by omega) (by omega) (by omega)
 have e2:List.take (p.length+x.length - p.length) (List.drop p.length l)=x:=by
  rw[hlp,List.drop_left,Nat.add_sub_cancel_left,List.take_left]
 simp only[Int.toNat_natCast] at e1
 rw[e2] at e1
 cases r with
 |nil=>
  have hr0:([]:List UInt8).length=0:=rfl
  rw[List.append_nil,O5 hx] at hw
  have hpx:((p.length+x.length:Nat):Int)=(l.length:Int):=by omega
  have hxD:D.sc (Value.string ⟨x.toArray⟩)=sD x:=rfl
  simp (disch:=first|omega|exact f6|(simp only[i6]<;>omega)) only[WA,Nat.reduceEqDiff,Nat.reduceLT,Nat.reduceAdd,↓reduceIte,reduceCtorEq,LL,e1,aY1]
  all_goals try (exfalso;omega)
  rw[hpx]
  refine ⟨_,_,_,by omega,p9 [(2,0)] 1 h0 rfl rfl rfl rfl,dn++ [x],[],[],[],.inr ⟨rfl,hw.symm,?_,?_⟩⟩
  ·rw[List.length_append];rfl
  ·rw[List.map_append];rfl
 |cons b r=>
  have hr0:(b::r).length=r.length+1:=rfl
  have hb:=U8 l .i64 ((p.length+x.length:Nat):Int) (by omega) (by omega)
  have hg:l[p.length+x.length]! =b:=by
   rw[hlp,← List.append_assoc,getElem!_pos _ _ (by simp),List.getElem_append_right (by simp)]
   simp
  rw[Int.toNat_natCast,hg] at hb
  by_cases hbc:b=c
  ·subst hbc
   rw[F8 r hx] at hw
   simp (disch:=first|omega|exact f6|(simp only[i6]<;>omega)) only[WA,Nat.reduceEqDiff,Nat.reduceLT,Nat.reduceAdd,↓reduceIte,reduceCtorEq,LL,e1,hb,aY1]
   all_goals try (exfalso;omega)
   refine ⟨_,_,_,?_,p9 [(2,0)] 1 h0 rfl rfl rfl rfl,dn++ [x],p++(x++ [b]),[],r,.inl ⟨rfl,by rw[hlp];simp,by simp,by rw[hw];simp,?_,?_⟩⟩
   ·omega
   ·have hpx:(p++(x++ [b])).length=p.length+x.length+1:=by simp;omega
    rw[hpx,List.length_append];rfl
   ·rw[List.map_append];rfl
  ·have hne:¬ ((b.toNat:Nat):Int)=((c.toNat:Nat):Int):=fun h=>hbc (UInt8.toNat_inj.1 (by omega))
   simp (disch:=first|omega|exact f6|fail) only[WA,Nat.reduceEqDiff,Nat.reduceLT,↓reduceIte,reduceCtorEq,LL,e1,hb,hne,aY1]
   all_goals try (exfalso;omega)
   refine ⟨_,_,_,?_,.refl _ _,dn,p,x++ [b],r,.inl ⟨rfl,by rw[hlp];simp,?_,by rw[hw];simp,?_,rfl⟩⟩
   ·omega
   ·rw[List.mem_append,List.mem_singleton];rintro (h|h);exact hx h;exact hbc h.symm
   ·rw[List.length_append];rfl
theorem TQ (l:List UInt8) (c:UInt8) (hl:l.length≤1000000):k8 (EN w (n+1)) 23 [m6 l,.sc (.int .u8 c.toNat)] (.sl 2 (n9 c l).length ((n9 c l).map sD)) ⟨[],0,0⟩:=by
 refine (bV0 w n l c hl).fin ?_ rfl rfl rfl (fun h=>by cases h)
 exact aY8 rfl (by simp)
end
set_option maxHeartbeats 400000
section
variable (w:World) (n:Nat)
theorem ZU (x:p7):k8 (EN w (n+1)) 91 [gA x] (m6 (hO x.purl)) ⟨[],0,0⟩:=by
 obtain ⟨k,p,a,b⟩:=x
 cases p
 all_goals
  refine b8 rfl rfl (fun _ _=>rfl) (Nat.le_of_ble_eq_true rfl) (d7 w) rfl fun C hC h0=>?_
  repeat' (first|(simp (disch:=first|exact f6|fail) only[WA,Nat.reduceEqDiff,Nat.reduceLT,↓reduceIte,reduceCtorEq,c91]))
  exact b7 rfl h0 rfl
theorem bJ0 (x:p7):k8 (EN w (n+1)) 103 [gA x] (m6 (uJ x.purl)) ⟨[],0,0⟩:=by
 obtain ⟨k,p,a,b⟩:=x
 cases p
 all_goals
  refine b8 rfl rfl (fun _ _=>rfl) (Nat.le_of_ble_eq_true rfl) (d7 w) rfl fun C hC h0=>?_
  repeat' (first|(simp (disch:=first|exact f6|fail) only[WA,Nat.reduceEqDiff,Nat.reduceLT,↓reduceIte,reduceCtorEq,bZ7]))
  exact b7 rfl h0 rfl
theorem yU (z:Int) (h0:0≤z) (h1:z≤1000000):k8 (EN w (n+1)) 18 [.sc (.int .i64 z)] (m6 (Lib.itoa z)) ⟨[],0,0⟩:=by
 obtain ⟨u,rfl⟩:=Int.eq_ofNat_of_zero_le h0
 have:=aD3 w n u (by omega)
 rwa [← Lib.itoa_nonneg] at this
theorem bI0 (x:p7) (hx:D1 x) (hc:x.kind ≠ 1∧x.kind ≠ 8):k8 (EN w (n+2)) 92 [gA x] (m6 (join 32 (I4 x 1))) ⟨[],0,0⟩:=by
 have hb:=hx.bounds
 have d1:=yU w n x.a (by omega) (by omega)
 have d2:=yU w n x.b (by omega) (by omega)
 have hs:=ZU w n x
 have hw:=bJ0 w n x
 have l2:=C5 (z:=x.a) (by omega) (by omega)
 have l3:=C5 (z:=x.b) (by omega) (by omega)
 have m1:max x.a 0=x.a:=by omega
 have m2:max x.b 0=x.b:=by omega
 obtain ⟨k,p,a,b⟩:=x
 simp only at hb hc d1 d2 hs hw l2 l3 m1 m2
 have hgo:∀ R:List UInt8,I4 ⟨k,p,a,b⟩ 1=I4 ⟨k,p,a,b⟩ 1:=fun _=>rfl
 unfold hO at hs
 unfold uJ at hw
 unfold I4
 simp only
 generalize hA:Lib.itoa a=A at*
 generalize hB:Lib.itoa b=B at*
 clear hx hgo
 rcases (by omega:(k=2∨k=9)∨(k=3∨k=4)∨(k=5∨k=6∨k=7∨k=10)) with (rfl|rfl)|(rfl|rfl)|(rfl|rfl|rfl|rfl)
 iterate 2
  ·refine b8 rfl rfl (fun _ _=>rfl) (Nat.le_of_ble_eq_true rfl) (d7 w) rfl fun C hC h0=>?_
   repeat' (first|(simp (disch:=first|exact f6|fail) only[WA,l6,p8,Nat.reduceEqDiff,Nat.reduceLT,Nat.reduceAdd,↓reduceIte,reduceCtorEq,c92,fP,m1,m2]))
   refine L5 (by rw[hC];exact d1.flat rfl rfl) ?_
   refine a6 (by rw[hC];exact d2.flat rfl rfl) ?_
   repeat' (first|(simp (disch:=first|omega|exact f6|(simp only[i6]<;>omega)) only[WA,Nat.reduceEqDiff,Nat.reduceLT,↓reduceIte,K9,List.append_assoc]))
   all_goals try (exfalso;omega)
   exact b7 rfl h0 rfl
 iterate 2
  ·cases p
   all_goals
    refine b8 rfl rfl (fun _ _=>rfl) (Nat.le_of_ble_eq_true rfl) (d7 w) rfl fun C hC h0=>?_
    repeat' (first|(simp (disch:=first|exact f6|fail) only[WA,l6,p8,Nat.reduceEqDiff,Nat.reduceLT,Nat.reduceAdd,↓reduceIte,reduceCtorEq,c92,fP,m1,m2]))
    refine L5 (by rw[hC];exact d1.flat rfl rfl) ?_
    refine a6 (by rw[hC];exact d2.flat rfl rfl) ?_
    repeat' (first|(simp (disch:=first|omega|exact f6|fail) only[WA,Nat.reduceEqDiff,Nat.reduceLT,↓reduceIte]))
    refine a6 (by rw[hC];exact hs.flat rfl rfl) ?_
    repeat' (first|(simp (disch:=first|exact f6|(simp only[i6]<;>omega)) only[WA,Nat.reduceEqDiff,Nat.reduceLT,↓reduceIte,K9,List.append_assoc]))
    all_goals try (exfalso;omega)
    exact b7 rfl h0 rfl
 all_goals
  cases p
  all_goals
   refine b8 rfl rfl (fun _ _=>rfl) (Nat.le_of_ble_eq_true rfl) (d7 w) rfl fun C hC h0=>?_
   repeat' (first|(simp (disch:=first|omega|exact f6|fail) only[WA,l6,p8,Nat.reduceEqDiff,Nat.reduceLT,Nat.reduceAdd,↓reduceIte,reduceCtorEq,c92,fP,m1,m2]))
   refine L5 (by rw[hC];exact d1.flat rfl rfl) ?_
   refine a6 (by rw[hC];exact d2.flat rfl rfl) ?_
   repeat' (first|(simp (disch:=first|omega|exact f6|(simp only[i6]<;>omega)) only[WA,Nat.reduceEqDiff,Nat.reduceLT,↓reduceIte,K9,List.append_assoc]))
   refine a6 (by rw[hC];exact hw.flat rfl rfl) ?_
   repeat' (first|(simp (disch:=first|exact f6|(simp only[i6]<;>omega)) only[WA,Nat.reduceEqDiff,Nat.reduceLT,↓reduceIte,K9,List.append_assoc]))
   all_goals try (exfalso;omega)
   exact b7 rfl h0 rfl
theorem pL {x:p7} (m:Int) (h:x.kind ≠ 1∧x.kind ≠ 8):p5 x m=if 1<m then join 32 (I4 x 1)++32::(Lib.itoa m++dG) else join 32 (I4 x 1):=by
 have e:I4 x m=I4 x 1:=by
  obtain ⟨k,p,a,b⟩:=x
  unfold I4
  simp only at h ⊢
  split<;>first|rfl|(exfalso;omega)
 unfold p5 K1 cK
 rw[e]
 by_cases h1:1<m
 ·rw[if_pos h1,if_pos ⟨h1,h.1,h.2⟩,show I4 x 1++ [Lib.itoa m,Q6]=(I4 x 1++ [Lib.itoa m])++ [Q6] from by simp,dV _ _ (by simp),dV _ _ (vL x 1)]
  simp[dG]
 ·rw[if_neg h1,if_neg fun hh=>h1 hh.1,List.append_nil]
theorem FC (x:p7) (hx:D1 x) (m:Int) (h0:1≤m) (h1:m≤1000):k8 (EN w (n+3)) 72 [gA x,.sc (.int .i64 m)] (m6 (p5 x m)) ⟨[],0,0⟩:=by
 have hb:=hx.bounds
 have d1:=yU w (n+1) m (by omega) (by omega)
 have l1:=C5 (z:=m) (by omega) (by omega)
 by_cases hk:x.kind=1
 ·have hs:=ZU w (n+1) x
  unfold D1 at hx
  obtain ⟨k,p,a,b⟩:=x
  simp only at hk hs
  subst hk
  have e:p5 ⟨1,p,a,b⟩ m=hO p++32::Lib.itoa m:=by
   unfold p5 K1 cK
   rw[if_neg (by simp),List.append_nil]
   cases p<;>simp[I4,jR,join,hO]
  rw[e]
  unfold hO at hs ⊢
  generalize Lib.itoa m=A at*
  cases p
  all_goals
   refine b8 rfl rfl (fun _ _=>rfl) (Nat.le_of_ble_eq_true rfl) (d7 w) rfl fun C hC h0=>?_
   repeat' (first|(simp (disch:=first|exact f6|fail) only[WA,Nat.reduceEqDiff,Nat.reduceLT,↓reduceIte,reduceCtorEq,c72]))
   refine a6 (by rw[hC];exact d1.flat rfl rfl) ?_
   repeat' (first|(simp (disch:=first|omega|exact f6|fail) only[WA,Nat.reduceEqDiff,Nat.reduceLT,↓reduceIte]))
   refine a6 (by rw[hC];exact hs.flat rfl rfl) ?_
   repeat' (first|(simp (disch:=first|exact f6|(simp only[i6]<;>omega)) only[WA,Nat.reduceEqDiff,Nat.reduceLT,↓reduceIte,K9,List.append_assoc]))
   all_goals try (exfalso;omega)
   exact b7 rfl h0 rfl
 by_cases hk8:x.kind=8
 ·obtain ⟨k,p,a,b⟩:=x
  simp only at hk8
  subst hk8
  have e:p5 ⟨8,p,a,b⟩ m= [115,108,105,112]++32::(Lib.itoa m++if p=true then [32,119,105,116,104,32,121,97,114,110,32,105,110,32,102,114,111,110,116] else []):=by
   unfold p5 K1 cK
   rw[if_neg (by simp),List.append_nil]
   cases p<;>simp[I4,join]
  rw[e]
  clear e hx
  generalize Lib.itoa m=A at*
  cases p
  all_goals
   refine b8 rfl rfl (fun _ _=>rfl) (Nat.le_of_ble_eq_true rfl) (d7 w) rfl fun C hC h0=>?_
   repeat' (first|(simp (disch:=first|exact f6|fail) only[WA,Nat.reduceEqDiff,Nat.reduceLT,↓reduceIte,reduceCtorEq,c72]))
   refine a6 (by rw[hC];exact d1.flat rfl rfl) ?_
   repeat' (first|(simp (disch:=first|omega|exact f6|(simp only[i6]<;>omega)) only[WA,Nat.reduceEqDiff,Nat.reduceLT,↓reduceIte,K9,List.append_assoc]))
   all_goals try (exfalso;omega)
   exact b7 rfl h0 rfl
 have hb1:=bI0 w n x hx ⟨hk,hk8⟩
 have hlen:=cV hx (m:=1) (by decide) (by decide)
 rw[pL 1 ⟨hk,hk8⟩,if_neg (by decide)] at hlen
 rw[pL m ⟨hk,hk8⟩]
 generalize join 32 (I4 x 1)=J at*
 clear hx
 obtain ⟨k,p,a,b⟩:=x
 simp only at hb hk hk8
 by_cases hm:1<m
 ·rw[if_pos hm]
  generalize Lib.itoa m=A at*
  refine b8 rfl rfl (fun _ _=>rfl) (Nat.le_of_ble_eq_true rfl) (d7 w) rfl fun C hC h0=>?_
  simp (disch:=first|exact f6|fail) only[WA,Nat.reduceEqDiff,Nat.reduceLT,↓reduceIte,reduceCtorEq,c72]
  all_goals try (exfalso;omega)
  refine a6 (by rw[hC];exact d1.flat rfl rfl) ?_
  simp (disch:=first|omega|exact f6|fail) only[WA,Nat.reduceEqDiff,Nat.reduceLT,↓reduceIte]
  all_goals try (exfalso;omega)
  refine a6 (by rw[hC];exact hb1.flat rfl rfl) ?_
  simp (disch:=first|exact f6|(simp only[i6]<;>omega)) only[WA,Nat.reduceEqDiff,Nat.reduceLT,↓reduceIte,K9,List.append_assoc]
  all_goals try (exfalso;omega)
  exact b7 rfl h0 rfl
 ·rw[if_neg hm]
  generalize Lib.itoa m=A at*
  refine b8 rfl rfl (fun _ _=>rfl) (Nat.le_of_ble_eq_true rfl) (d7 w) rfl fun C hC h0=>?_
  simp (disch:=first|exact f6|fail) only[WA,Nat.reduceEqDiff,Nat.reduceLT,↓reduceIte,reduceCtorEq,c72]
  all_goals try (exfalso;omega)
  refine a6 (by rw[hC];exact d1.flat rfl rfl) ?_
  simp (disch:=first|omega|exact f6|fail) only[WA,Nat.reduceEqDiff,Nat.reduceLT,↓reduceIte]
  all_goals try (exfalso;omega)
  refine a6 (by rw[hC];exact hb1.flat rfl rfl) ?_
  repeat' (first|(simp (disch:=fail) only[WA,l6,p8,Nat.reduceEqDiff,Nat.reduceLT,Nat.reduceAdd,Nat.reduceBEq,Int.reduceAdd,Int.reduceSub,Int.reduceLT,Int.reduceLE,Int.reduceEq,Int.reduceNeg,↓reduceIte,reduceCtorEq,List.replicate])|apply s7|((first|apply D5|apply y9|apply z6|apply D6|apply D4|apply z7)<;>intro _))
  all_goals try (exfalso;omega)
  exact b7 rfl h0 rfl
end
section
variable (w:World) (n:Nat)
theorem qA {C:D0} (hC:C.E=EN w (n+3)) (s:Nat) (L:List p7) (hL:L.length≤200) (j t:Nat) (hj:j+1+t≤L.length) (ht:∀ i,i<t→(L.drop (j+1))[i]! =L[j]!) (hn:t<(L.drop (j+1)).length→(L.drop (j+1))[t]! ≠ L[j]!) (q:V) (st:l9) {K:List KF} {P:B5}
  (hgo:gK C K (.exit 2) [(0,.sl s L.length (A5 L)),(3,q),(4,.sc (.int .i64 j)),(5,.sc (.int .i64 ((1+t:Nat):Int))),(31,.sc (.bool false))] st P):
  gL C [0,3,4,5] LQ K [(0,.sl s L.length (A5 L)),(3,q),(4,.sc (.int .i64 j)),(5,.sc (.int .i64 1))] st P:=by
 have hrn:C.E.rounds=A4:=by rw[hC,j5]
 have hil:=G3 L
 have hdl:(L.drop (j+1)).length=L.length - (j+1):=List.length_drop
 refine s8 (fun m fr st'=>∃ k:Nat,m=t - k∧k≤t∧fr= [(0,.sl s L.length (A5 L)),(3,q),(4,.sc (.int .i64 j)),(5,.sc (.int .i64 ((1+k:Nat):Int)))]∧st'=st) t ?_ ⟨_,_,.refl _ _,0,by omega,Nat.zero_le _,rfl,rfl⟩ ?_
 ·rw[hrn];unfold A4;omega
 rintro m fr st' ⟨k,rfl,hk,rfl,rfl⟩
 have hagj:=M0 L j (by omega)
 have hjk:(j:Int)+((1+k:Nat):Int)=((j+1+k:Nat):Int):=by omega
 by_cases hlt:j+1+k<L.length
 ·have hag:=M0 L (j+1+k) hlt
  have hdk:=MM (L:=L) (j:=j+1) (i:=k) hlt
  by_cases hkt:k<t
  ·have he:=ht k hkt
   rw[hdk] at he
   rw[he] at hag
   generalize L[j]! =X at*
   obtain ⟨xk,xp,xa,xb⟩:=X
   simp (disch:=first|omega|exact f6|(simp only[i6]<;>omega)) only[WA,l6,p8,Nat.reduceEqDiff,Nat.reduceLT,↓reduceIte,reduceCtorEq,LQ,hjk,hag,hagj,↓bC]
   exact ⟨t - (k+1),_,_,by omega,.refl _ _,k+1,rfl,by omega,by rw[show ((1+k:Nat):Int)+1=((1+(k+1):Nat):Int) from by omega],rfl⟩
  ·have:k=t:=by omega
   subst this
   have he:=hn (by omega)
   rw[hdk] at he
   have hd:=decide_eq_false he
   generalize L[j]! =X at*
   generalize L[j+1+k]! =Y at*
   obtain ⟨xk,xp,xa,xb⟩:=X
   obtain ⟨yk,yp,ya,yb⟩:=Y
   simp (disch:=first|omega|exact f6|fail) only[WA,l6,p8,Nat.reduceEqDiff,Nat.reduceLT,↓reduceIte,reduceCtorEq,LQ,hjk,hag,hagj,↓bC,hd]
   exact hgo
 ·have:k=t:=by omega
  subst this
  simp (disch:=first|omega|exact f6|fail) only[WA,l6,p8,Nat.reduceEqDiff,Nat.reduceLT,↓reduceIte,reduceCtorEq,LQ,hjk]
  exact hgo
theorem QJ (s:Nat) (L:List p7) (hL:L.length≤200) (hok:L.all C9=true):k8 (EN w (n+4)) 51 [.sl s L.length (A5 L)] (m6 (s9 L)) ⟨[],0,0⟩:=by
 have hil:=G3 L
 have hrl:=rZ L
 have hP:∀ x ∈ L,D1 x:=fun x hx=>B4.1 (List.all_eq_true.1 hok x hx)
 unfold s9
 by_cases hn:L= []
 ·subst hn
  rw[if_pos rfl]
  refine b8 rfl rfl (fun _ _=>rfl) (Nat.le_of_ble_eq_true rfl) (d7 w) rfl fun C hC h0=>?_
  simp (disch:=first|omega|exact f6|fail) only[WA,Nat.reduceEqDiff,Nat.reduceLT,↓reduceIte,reduceCtorEq,c51]
  exact b7 rfl h0 rfl
 rw[if_neg hn]
 have hln:0<L.length:=List.length_pos_iff.2 hn
 refine b8 rfl rfl (fun _ _=>rfl) (Nat.le_of_ble_eq_true rfl) (d7 w) rfl fun C hC h0=>?_
 have hrn:C.E.rounds=A4:=by rw[hC,j5]
 simp (disch:=first|omega|exact f6|fail) only[WA,Nat.reduceEqDiff,Nat.reduceLT,↓reduceIte,reduceCtorEq,c51]
 all_goals try (exfalso;omega)
 refine s8 (fun m fr st=>∃ (j:Nat) (R:List (p7 × Nat)),m=L.length - j∧j≤L.length∧I1 L=R++I1 (L.drop j)∧(j=0↔R= [])∧fr= [(0,.sl s L.length (A5 L)),(3,m6 (KN (R.map JG))),(4,.sc (.int .i64 j))]∧st=⟨[],0,0⟩) L.length ?_ ⟨_,_,.refl _ _,0,[],by omega,Nat.zero_le _,rfl,⟨fun _=>rfl,fun _=>rfl⟩,rfl,rfl⟩ ?_
 ·rw[hrn];unfold A4;omega
 rintro m fr st ⟨j,R,rfl,hj,hR,hjR,rfl,rfl⟩
 have hRl:R.length≤200:=by
  have:=congrArg List.length hR
  rw[List.length_append] at this
  omega
 have hlen:=IS (R.map JG) 100 fun w hw=>by
  obtain ⟨r,hr,rfl⟩:=List.mem_map.1 hw
  have:=X7 L r (by rw[hR];exact List.mem_append_left _ hr)
  exact cV (hP _ this.2.2) (by omega) (by omega)
 rw[List.length_map] at hlen
 by_cases hlt:j<L.length
 ·obtain ⟨t,h1,h2,h3,h4⟩:=nQ L[j]! (L.drop (j+1))
  rw[← wI hlt] at h4
  have hdl:(L.drop (j+1)).length=L.length - (j+1):=List.length_drop
  rw[hdl] at h1
  have hXP:D1 L[j]! :=hP _ (by rw[getElem!_pos _ j hlt];exact List.getElem_mem hlt)
  have hph:=FC w n L[j]! hXP ((1+t:Nat):Int) (by omega) (by omega)
  have hpl:=cV hXP (m:=((1+t:Nat):Int)) (by omega) (by omega)
  have hag:=M0 L j hlt
  rw[List.drop_drop] at h4
  have hR2:I1 L=(R++ [(L[j]!,t+1)])++I1 (L.drop (j+1+t)):=by rw[hR,h4];simp
  have hphr:JG (L[j]!,t+1)=p5 L[j]! ((1+t:Nat):Int):=by
   show p5 _ ((t+1:Nat):Int)=_
   rw[Nat.add_comm]
  have hjn:KN ((R++ [(L[j]!,t+1)]).map JG)=if R= [] then p5 L[j]! ((1+t:Nat):Int) else KN (R.map JG)++44::32::p5 L[j]! ((1+t:Nat):Int):=by
   rw[List.map_append,List.map_cons,List.map_nil,hphr]
   by_cases hr:R= []
   ·subst hr;rfl
   ·rw[if_neg hr,OE _ _ (by simp[hr])]
  generalize hJ:KN (R.map JG)=J at*
  by_cases hj0:j=0
  ·subst hj0
   have hR0:=hjR.1 rfl
   rw[if_pos hR0] at hjn
   have hJ0:J= []:=by rw[← hJ,hR0];rfl
   subst hJ0
   simp (disch:=first|omega|exact f6|fail) only[WA,Nat.reduceEqDiff,Nat.reduceLT,↓reduceIte,reduceCtorEq,WR]
   all_goals try (exfalso;omega)
   refine qA w n hC s L hL 0 t (by omega) h2 h3 _ _ ?_
   generalize L[0]! =X at*
   generalize p5 X ((1+t:Nat):Int)=ph at*
   obtain ⟨xk,xp,xa,xb⟩:=X
   simp (disch:=first|omega|exact f6|fail) only[WA,Nat.reduceEqDiff,Nat.reduceLT,↓reduceIte,reduceCtorEq,hag]
   refine a6 (by rw[hC];exact hph.flat rfl rfl) ?_
   simp (disch:=first|omega|exact f6|fail) only[WA,Nat.reduceEqDiff,Nat.reduceLT,↓reduceIte,reduceCtorEq,K9]
   all_goals try (exfalso;omega)
   refine ⟨L.length - (0+1+t),_,_,by omega,.refl _ _,0+1+t,R++ [(⟨xk,xp,xa,xb⟩,t+1)],rfl,by omega,hR2,⟨fun h=>by omega,fun h=>by simp at h⟩,?_,rfl⟩
   rw[hjn,show ((0:Nat):Int)+((1+t:Nat):Int)=((0+1+t:Nat):Int) from by omega]
  ·have hR0:R ≠ []:=fun h=>hj0 (hjR.2 h)
   rw[if_neg hR0] at hjn
   simp (disch:=first|omega|exact f6|fail) only[WA,Nat.reduceEqDiff,Nat.reduceLT,↓reduceIte,reduceCtorEq,WR]
   all_goals try (exfalso;omega)
   refine qA w n hC s L hL j t (by omega) h2 h3 _ _ ?_
   generalize L[j]! =X at*
   generalize p5 X ((1+t:Nat):Int)=ph at*
   obtain ⟨xk,xp,xa,xb⟩:=X
   simp (disch:=first|omega|exact f6|(simp only[i6]<;>omega)) only[WA,Nat.reduceEqDiff,Nat.reduceLT,↓reduceIte,reduceCtorEq,hag,K9]
   all_goals try (exfalso;omega)
   refine a6 (by rw[hC];exact hph.flat rfl rfl) ?_
   simp (disch:=first|omega|exact f6|(simp only[i6]<;>omega)) only[WA,Nat.reduceEqDiff,Nat.reduceLT,↓reduceIte,reduceCtorEq,K9,List.append_assoc]
   all_goals try (exfalso;omega)
   refine ⟨L.length - (j+1+t),_,_,by omega,.refl _ _,j+1+t,R++ [(⟨xk,xp,xa,xb⟩,t+1)],rfl,by omega,hR2,⟨fun h=>by omega,fun h=>by simp at h⟩,?_,rfl⟩
   rw[hjn,show (j:Int)+((1+t:Nat):Int)=((j+1+t:Nat):Int) from by omega]
 ·have:j=L.length:=by omega
  subst this
  rw[List.drop_length,I1,List.append_nil] at hR
  rw[hR]
  simp (disch:=first|omega|exact f6|fail) only[WA,Nat.reduceEqDiff,Nat.reduceLT,↓reduceIte,reduceCtorEq,WR]
  all_goals try (exfalso;omega)
  exact b7 rfl h0 rfl
theorem aW0 (s:Nat) (L:List p7) (hL:L.length≤140737488351232) (hK:SU L):k8 (EN w (n+5)) 33 [.sl s L.length (A5 L)] (.tup [m6 (A0 L).1,.sc (.int .i64 (A0 L).2)]) ⟨[],0,0⟩:=by
 have ha:=JH w (n+1) s L hL hK
 unfold A0
 by_cases h0:K3 L=0
 ·rw[h0] at ha
  rw[if_pos h0]
  have hok:=Y2 h0
  have hw:=QJ w n s L hok.1 hok.2.1
  generalize s9 L=W at*
  have hsz:=n4 W
  by_cases h2:2000<W.length
  ·rw[if_pos h2]
   refine b8 rfl rfl (fun _ _=>rfl) (Nat.le_of_ble_eq_true rfl) (d7 w) rfl fun C hC h0=>?_
   simp (disch:=first|exact f6|fail) only[WA,Nat.reduceEqDiff,Nat.reduceLT,↓reduceIte,reduceCtorEq,c33]
   refine a6 (by rw[hC];exact ha.flat rfl rfl) ?_
   simp (disch:=first|exact f6|fail) only[WA,Nat.reduceEqDiff,Nat.reduceLT,↓reduceIte,reduceCtorEq]
   refine a6 (by rw[hC];exact hw.flat rfl rfl) ?_
   simp (disch:=first|omega|exact f6|fail) only[WA,Nat.reduceEqDiff,Nat.reduceLT,↓reduceIte,hsz]
   all_goals try (exfalso;omega)
   exact b7 rfl h0 rfl
  ·rw[if_neg h2]
   refine b8 rfl rfl (fun _ _=>rfl) (Nat.le_of_ble_eq_true rfl) (d7 w) rfl fun C hC h0=>?_
   simp (disch:=first|exact f6|fail) only[WA,Nat.reduceEqDiff,Nat.reduceLT,↓reduceIte,reduceCtorEq,c33]
   refine a6 (by rw[hC];exact ha.flat rfl rfl) ?_
   simp (disch:=first|exact f6|fail) only[WA,Nat.reduceEqDiff,Nat.reduceLT,↓reduceIte,reduceCtorEq]
   refine a6 (by rw[hC];exact hw.flat rfl rfl) ?_
   simp (disch:=first|omega|exact f6|fail) only[WA,Nat.reduceEqDiff,Nat.reduceLT,↓reduceIte,hsz]
   all_goals try (exfalso;omega)
   exact b7 rfl h0 rfl
 ·rw[if_neg h0]
  generalize K3 L=e at*
  refine b8 rfl rfl (fun _ _=>rfl) (Nat.le_of_ble_eq_true rfl) (d7 w) rfl fun C hC h0=>?_
  simp (disch:=first|exact f6|fail) only[WA,Nat.reduceEqDiff,Nat.reduceLT,↓reduceIte,reduceCtorEq,c33]
  refine a6 (by rw[hC];exact ha.flat rfl rfl) ?_
  simp (disch:=first|omega|exact f6|fail) only[WA,Nat.reduceEqDiff,Nat.reduceLT,↓reduceIte,reduceCtorEq]
  all_goals try (exfalso;omega)
  exact b7 rfl h0 rfl
end
theorem wO {f:List UInt8→Option Int} {l:List (List UInt8)} {k:Nat} (hk:k<l.length):(l.take (k+1)).filterMap f=(l.take k).filterMap f++(f l[k]!).toList:=by
 rw[List.take_succ_eq_append_getElem hk,List.filterMap_append,getElem!_pos l k hk]
 cases h:f l[k]<;>simp[h]
abbrev YG (l:List Int):V:= .sl 3 l.length (l.map iD)
def knD:List D:= [.sc (.int .u8 1),.sc (.int .u8 2),.sc (.int .u8 3),.sc (.int .u8 4),.sc (.int .u8 5),.sc (.int .u8 6),.sc (.int .u8 7),.sc (.int .u8 8),.sc (.int .u8 9),.sc (.int .u8 10)]
theorem bS8 (nx t:Nat):N8 nx t 1 10 [.int .u8 0] [(0,1,.sc (.int .u8 1)),(1,1,.sc (.int .u8 2)),(2,1,.sc (.int .u8 3)),(3,1,.sc (.int .u8 4)),(4,1,.sc (.int .u8 5)),(5,1,.sc (.int .u8 6)),(6,1,.sc (.int .u8 7)),(7,1,.sc (.int .u8 8)),(8,1,.sc (.int .u8 9)),(9,1,.sc (.int .u8 10))]=some (.ref nx 0 10 10,some (.row t 1 false false knD),[]):=(rfl)
theorem bS7 (k:Nat) (h:k<10):C8 knD k none=some (.sc (.int .u8 ((k+1:Nat):Int))):=by
 rcases (by omega:k=0∨k=1∨k=2∨k=3∨k=4∨k=5∨k=6∨k=7∨k=8∨k=9) with rfl|rfl|rfl|rfl|rfl|rfl|rfl|rfl|rfl|rfl<;>rfl
theorem IR (l:List Int) (k:Nat) (h:k<l.length):C8 (l.map iD) k none=some (.sc (.int .i64 l[k]!)):=qU iD l k h
section
variable (w:World) (n:Nat)
theorem VI (s:List UInt8) (hs:s.length≤100000):k8 (EN w (n+2)) 81 [m6 s] (YG (N9 (n9 32 s))) ⟨[],0,0⟩:=by
 have hcut:=TQ w n s 32 (by omega)
 have hwl:=Go.Itp.words_len (c:=32) s.length (s:=s) (Nat.le_refl _)
 rw[show (((32:UInt8).toNat:Nat):Int)=32 from rfl] at hcut
 generalize n9 32 s=q at*
 refine A2 rfl rfl (fun _ _=>rfl) (Nat.le_of_ble_eq_true rfl) (d7 w) S7 rfl fun C hC h0=>?_
 have hrn:C.E.rounds=A4:=by rw[hC,j5]
 simp (disch:=first|exact f6|fail) only[WA,Nat.reduceEqDiff,Nat.reduceLT,↓reduceIte,reduceCtorEq,c81]
 refine k9 (by rw[hC];exact hcut) rfl rfl (fun _=>rfl) ?_
 repeat' (first|(simp (disch:=fail) only[WA,l6,p8,Nat.reduceEqDiff,Nat.reduceLT,Nat.reduceAdd,Nat.reduceBEq,Int.reduceAdd,Int.reduceSub,Int.reduceLT,Int.reduceLE,Int.reduceEq,Int.reduceNeg,↓reduceIte,reduceCtorEq,List.replicate])|apply s7|((first|apply D5|apply y9|apply z6|apply D6|apply D4|apply z7)<;>intro _))
 refine s8 (fun m fr st=>∃ k:Nat,m=q.length - k∧k≤q.length∧fr= [(3,.gr 2 0 (N9 (q.take k)).length),(4,.sl 2 q.length (q.map sD)),(5,.sc (.int .i64 k))]∧st=⟨[(0,.gro 3 1 false ((N9 (q.take k)).map iD))],1,0⟩) q.length ?_ ⟨_,_,L3 3 3 1 rfl,0,by omega,Nat.zero_le _,rfl,rfl⟩ ?_
 ·rw[hrn];unfold A4;omega
 rintro m fr st ⟨k,rfl,hk,rfl,rfl⟩
 have hnl:(N9 (q.take k)).length≤k:=by
  unfold N9
  exact Nat.le_trans (List.length_filterMap_le _ _) (by rw[List.length_take];omega)
 by_cases hlt:k<q.length
 ·have hpl:=hwl.2 q[k]! (by rw[getElem!_pos q k hlt];exact List.getElem_mem hlt)
  have hnm:=YS w n q[k]! (by omega)
  have hft:N9 (q.take (k+1))=N9 (q.take k)++(I9 q[k]!).toList:=wO hlt
  generalize hp:q[k]! =p at*
  generalize N9 (q.take k)=N at*
  cases hr:I9 p with
  |none=>
   rw[hr] at hnm hft
   unfold tS at hnm
   simp only[Option.toList_none,List.append_nil] at hft
   simp (disch:=first|omega|exact f6|fail) only[WA,Nat.reduceEqDiff,Nat.reduceLT,↓reduceIte,WT,hp]
   all_goals try (exfalso;omega)
   refine a6 (by rw[hC];exact hnm.flat rfl rfl) ?_
   simp (disch:=first|omega|exact f6|fail) only[WA,Nat.reduceEqDiff,Nat.reduceLT,↓reduceIte,Option.isSome_none]
   exact ⟨q.length - (k+1),_,_,by omega,.refl _ _,k+1,rfl,by omega,by rw[hft];rfl,by rw[hft]⟩
  |some z=>
   rw[hr] at hnm hft
   unfold tS at hnm
   simp only[Option.toList_some] at hft
   simp (disch:=first|omega|exact f6|fail) only[WA,Nat.reduceEqDiff,Nat.reduceLT,↓reduceIte,WT,hp]
   all_goals try (exfalso;omega)
   refine a6 (by rw[hC];exact hnm.flat rfl rfl) ?_
   simp (disch:=first|omega|exact f6|(simp only[i6]<;>omega)) only[WA,Nat.reduceEqDiff,Nat.reduceLT,Nat.reduceAdd,↓reduceIte,reduceCtorEq,Option.isSome_some,Option.getD_some,rU]
   all_goals try (exfalso;omega)
   refine ⟨q.length - (k+1),_,_,by omega,p9 [(2,0)] 1 h0 rfl rfl rfl rfl,k+1,rfl,by omega,?_,?_⟩
   ·rw[hft,List.length_append];rfl
   ·rw[hft,List.map_append];rfl
 ·have:k=q.length:=by omega
  subst this
  rw[List.take_length]
  simp (disch:=first|omega|exact f6|fail) only[WA,Nat.reduceEqDiff,Nat.reduceLT,↓reduceIte,WT]
  all_goals try (exfalso;omega)
  exact bL (s:=2) (zR rfl (by simp)) rfl (.inl (by decide)) h0 rfl
theorem aX2:k8 (EN w (n+1)) 82 [] (.sl 3 10 knD) ⟨[],0,0⟩:=by
 refine A2 rfl rfl (fun _ _=>rfl) (Nat.le_of_ble_eq_true rfl) (d7 w) S7 rfl fun C hC h0=>?_
 simp (disch:=first|exact f6|fail) only[WA,Nat.reduceLT,↓reduceIte,reduceCtorEq,c82,bS8]
 exact bL (s:=0) (n:=10) (l:=knD) rfl rfl (.inl (by decide)) h0 rfl
theorem aX7 (k:Nat) (h1:1≤k) (h2:k≤10) (p:Bool) (l:List Int) (hl:l.length≤100000):k8 (EN w (n+1)) 83 [.sc (.int .u8 k),.sc (.bool p),YG l] (.tup [gA (aK k p l).1,.sc (.int .i64 (aK k p l).2)]) ⟨[],0,0⟩:=by
 have i0:∀ h:0<l.length,C8 (l.map iD) 0 none=some (.sc (.int .i64 l[0]!)):=IR l 0
 have i1:∀ h:1<l.length,C8 (l.map iD) 1 none=some (.sc (.int .i64 l[1]!)):=IR l 1
 have i2:∀ h:2<l.length,C8 (l.map iD) 2 none=some (.sc (.int .i64 l[2]!)):=IR l 2
 unfold aK YG
 have hml:(l.map iD).length=l.length:=List.length_map ..
 generalize l.map iD=LD at*
 generalize l[0]! =a0 at*
 generalize l[1]! =a1 at*
 generalize l[2]! =a2 at*
 generalize l.length=ln at*
 rcases (by omega:ln=0∨ln=1∨ln=2∨2<ln) with rfl|rfl|rfl|h3
 all_goals
  rcases (by omega:k=1∨k=2∨k=3∨k=4∨k=5∨k=6∨k=7∨k=8∨k=9∨k=10) with rfl|rfl|rfl|rfl|rfl|rfl|rfl|rfl|rfl|rfl
 all_goals
  try (have f0:(0<ln)=True:=eq_true (by omega);have f1:(1<ln)=True:=eq_true (by omega);have f2:(2<ln)=True:=eq_true (by omega);have f3:(ln=0)=False:=eq_false (by omega);have f4:(ln<2)=False:=eq_false (by omega);simp only[f0,f1,f2,f3,f4])
  simp (config:={decide:=true}) only[if_true,if_false,true_or,or_true,false_or]
  refine b8 rfl rfl (fun _ _=>rfl) (Nat.le_of_ble_eq_true rfl) (d7 w) rfl fun C hC h0=>?_
  repeat' (first|(simp (disch:=first|omega|exact f6|(simp only[i6]<;>omega)) only[WA,l6,p8,Nat.reduceEqDiff,Nat.reduceLT,Nat.reduceAdd,↓reduceIte,reduceCtorEq,List.replicate,c83,FZ,tn1,tn2,i0,i1,i2,aI7,mU,bE8])|apply s7|((first|apply D5|apply y9|apply z6|apply D6|apply D4|apply z7)<;>intro _))
 all_goals try (exfalso;omega)
 all_goals exact b7 rfl h0 rfl
end
def Z8:Option (p7 × Int)→V
 |none=> .tup [gA sG,.sc (.int .i64 0)]
 |some (x,m)=> .tup [gA x,.sc (.int .i64 m)]
def BR (x:List UInt8):List (List UInt8)→List (List UInt8)
 | []=> [x]
 |w::ws=>(x++w)::ws
theorem PD {W:List (List UInt8)} (h:W ≠ []):BR [] W=W:=by cases W with
 |nil=>exact absurd rfl h
 |cons a b=>rfl
theorem EK (x:List UInt8) (c:UInt8) {W:List (List UInt8)} (h:W ≠ []):BR x (oJ c W)=BR (x++ [c]) W:=by cases W with
 |nil=>exact absurd rfl h
 |cons a b=>simp[BR,oJ]
section
variable (w:World) (n:Nat)
theorem bV3 (s:List UInt8) (hs:s.length≤90000):k8 (EN w (n+4)) 59 [m6 s] (Z8 (V2 s)) ⟨[],0,0⟩:=by
 have hnm:=VI w (n+1) s (by omega)
 have hkn:=aX2 w (n+2)
 have hnl:(N9 (n9 32 s)).length≤100000:=by
  have:=(Go.Itp.words_len (c:=32) s.length (s:=s) (Nat.le_refl _)).1
  unfold N9
  exact Nat.le_trans (List.length_filterMap_le _ _) (by omega)
 have hcand:∀ k p,sV k p s=P5 (aK k p (N9 (n9 32 s))).1 ((aK k p (N9 (n9 32 s))).2,[]) s:=fun k p=>rfl
 refine b8 rfl rfl (fun _ _=>rfl) (Nat.le_of_ble_eq_true rfl) (d7 w) (by rcases V2 s with _|⟨x,m⟩<;>rfl) fun C hC h0=>?_
 have hrn:C.E.rounds=A4:=by rw[hC,j5]
 generalize N9 (n9 32 s)=N at*
 simp (disch:=first|exact f6|fail) only[WA,Nat.reduceEqDiff,Nat.reduceLT,↓reduceIte,reduceCtorEq,List.replicate,c59]
 refine k9 (by rw[hC];exact hnm) rfl rfl (fun _=>rfl) ?_
 repeat' (first|(simp (disch:=fail) only[WA,l6,p8,Nat.reduceEqDiff,Nat.reduceLT,Nat.reduceAdd,Nat.reduceBEq,Int.reduceAdd,Int.reduceSub,Int.reduceLT,Int.reduceLE,Int.reduceEq,Int.reduceNeg,↓reduceIte,reduceCtorEq,List.replicate])|apply s7|((first|apply D5|apply y9|apply z6|apply D6|apply D4|apply z7)<;>intro _))
 refine k9 (by rw[hC];exact hkn) rfl rfl (fun _=>rfl) ?_
 repeat' (first|(simp (disch:=fail) only[WA,l6,p8,Nat.reduceEqDiff,Nat.reduceLT,Nat.reduceAdd,Nat.reduceBEq,Int.reduceAdd,Int.reduceSub,Int.reduceLT,Int.reduceLE,Int.reduceEq,Int.reduceNeg,↓reduceIte,reduceCtorEq,List.replicate])|apply s7|((first|apply D5|apply y9|apply z6|apply D6|apply D4|apply z7)<;>intro _))
 refine s8 (fun m fr st=>∃ i:Nat,m=20 - i∧i≤20∧(∀ i',i'<i→sV (i' / 2+1) (decide (i' % 2=1)) s=none)∧fr= [(0,m6 s),(2,.ptr 0 0),(4,YG N),(5,.sl 3 10 knD),(6,.sc (.int .i64 i))]∧st=⟨[(0,cI sG)],1,0⟩) 20 ?_ ⟨_,_,.refl _ _,0,by omega,Nat.zero_le _,fun i' h=>absurd h (Nat.not_lt_zero _),rfl,rfl⟩ ?_
 ·rw[hrn];unfold A4;omega
 rintro m fr st ⟨i,rfl,hi,hno,rfl,rfl⟩
 by_cases hlt:i<20
 ·have e1:(i:Int) / 2=((i / 2:Nat):Int):=by omega
  have e2:decide ((i:Int) % 2=1)=decide (i % 2=1):=decide_eq_decide.2 (by omega)
  have hld:=bS7 (i / 2) (by omega)
  have hck:=hcand (i / 2+1) (decide (i % 2=1))
  have htr:=aX7 w (n+2) (i / 2+1) (by omega) (by omega) (decide (i % 2=1)) N (by omega)
  have hkd:(aK (i / 2+1) (decide (i % 2=1)) N).1.kind=i / 2+1:=by
   unfold aK
   split
   ·rfl
   split
   ·rfl
   split
   ·rfl
   split
   ·rfl
   split
   ·split<;>rfl
   ·rfl
  generalize hX:aK (i / 2+1) (decide (i % 2=1)) N=XM at*
  obtain ⟨x,m⟩:=XM
  simp only at hck htr hkd
  have hchk:=PT w (n+2) x (by omega)
  have hph:=fun h1 h2 h3=>FC w n x h1 m h2 h3
  have hn:¬ ((1≤m∧m≤200)∧D1 x∧p5 x m=s)→P5 x (m,[]) s=none:=fun h=>by unfold P5;rw[if_neg fun hh=>h hh.2]
  have hy:((1≤m∧m≤200)∧D1 x∧p5 x m=s)→P5 x (m,[]) s=some (x,m):=fun h=>by unfold P5;rw[if_pos ⟨rfl,h⟩]
  have hnx:sV (i / 2+1) (decide (i % 2=1)) s=none→∀ i',i'<i+1→sV (i' / 2+1) (decide (i' % 2=1)) s=none:=fun hh=>mB hno hh
  by_cases h2:1≤m
  case neg=>
   have hnx:=hnx (by rw[hck];exact hn fun h=>h2 h.1.1)
   obtain ⟨xk,xp,xa,xb⟩:=x
   simp (disch:=first|omega|exact f6|fail) only[WA,Nat.reduceEqDiff,Nat.reduceLT,↓reduceIte,reduceCtorEq,vU,e1,hld,e2]
   all_goals try (exfalso;omega)
   refine a6 (by rw[hC];exact htr.flat rfl rfl) ?_
   simp (disch:=first|omega|exact f6|(simp only[i6]<;>omega)) only[WA,Nat.reduceEqDiff,Nat.reduceLT,Nat.reduceAdd,↓reduceIte,reduceCtorEq,List.replicate]
   all_goals try (exfalso;omega)
   exact ⟨20 - (i+1),_,_,by omega,p9 [(0,0)] 1 h0 rfl rfl rfl rfl,i+1,rfl,by omega,hnx,rfl,rfl⟩
  by_cases h3:m≤200
  case neg=>
   have hnx:=hnx (by rw[hck];exact hn fun h=>h3 h.1.2)
   obtain ⟨xk,xp,xa,xb⟩:=x
   simp (disch:=first|omega|exact f6|fail) only[WA,Nat.reduceEqDiff,Nat.reduceLT,↓reduceIte,reduceCtorEq,vU,e1,hld,e2]
   all_goals try (exfalso;omega)
   refine a6 (by rw[hC];exact htr.flat rfl rfl) ?_
   simp (disch:=first|omega|exact f6|(simp only[i6]<;>omega)) only[WA,Nat.reduceEqDiff,Nat.reduceLT,Nat.reduceAdd,↓reduceIte,reduceCtorEq,List.replicate]
   all_goals try (exfalso;omega)
   exact ⟨20 - (i+1),_,_,by omega,p9 [(0,0)] 1 h0 rfl rfl rfl rfl,i+1,rfl,by omega,hnx,rfl,rfl⟩
  cases h4:C9 x with
  |false=>
   have hnx:=hnx (by rw[hck];exact hn fun h=>by rw[B4.2 h.2.1] at h4;cases h4)
   rw[h4,if_neg (by decide)] at hchk
   obtain ⟨xk,xp,xa,xb⟩:=x
   simp (disch:=first|omega|exact f6|fail) only[WA,Nat.reduceEqDiff,Nat.reduceLT,↓reduceIte,reduceCtorEq,vU,e1,hld,e2]
   all_goals try (exfalso;omega)
   refine a6 (by rw[hC];exact htr.flat rfl rfl) ?_
   simp (disch:=first|omega|exact f6|(simp only[i6]<;>omega)) only[WA,Nat.reduceEqDiff,Nat.reduceLT,Nat.reduceAdd,↓reduceIte,reduceCtorEq,List.replicate]
   all_goals try (exfalso;omega)
   refine a6 (by rw[hC];exact hchk.flat rfl rfl) ?_
   simp (disch:=first|omega|exact f6|fail) only[WA,Nat.reduceEqDiff,Nat.reduceLT,Int.reduceEq,↓reduceIte,reduceCtorEq]
   exact ⟨20 - (i+1),_,_,by omega,p9 [(0,0)] 1 h0 rfl rfl rfl rfl,i+1,rfl,by omega,hnx,rfl,rfl⟩
  |true=>
   have hP:=B4.1 h4
   rw[h4,if_pos rfl] at hchk
   have hph:=hph hP h2 (by omega)
   by_cases h5:p5 x m=s
   ·have hr:V2 s=some (x,m):=TJ (hck.trans (hy ⟨⟨h2,h3⟩,hP,h5⟩))
    rw[hr]
    rw[h5] at hph
    clear hn hy hnx hck hcand hX hr
    obtain ⟨xk,xp,xa,xb⟩:=x
    simp (disch:=first|omega|exact f6|fail) only[WA,Nat.reduceEqDiff,Nat.reduceLT,↓reduceIte,reduceCtorEq,vU,e1,hld,e2]
    all_goals try (exfalso;omega)
    refine a6 (by rw[hC];exact htr.flat rfl rfl) ?_
    simp (disch:=first|omega|exact f6|(simp only[i6]<;>omega)) only[WA,Nat.reduceEqDiff,Nat.reduceLT,Nat.reduceAdd,↓reduceIte,reduceCtorEq,List.replicate]
    all_goals try (exfalso;omega)
    refine a6 (by rw[hC];exact hchk.flat rfl rfl) ?_
    simp (disch:=first|exact f6|(simp only[i6]<;>omega)) only[WA,Nat.reduceEqDiff,Nat.reduceLT,↓reduceIte,reduceCtorEq]
    refine a6 (by rw[hC];exact hph.flat rfl rfl) ?_
    simp (disch:=first|exact f6|(simp only[i6]<;>omega)) only[WA,Nat.reduceEqDiff,Nat.reduceLT,↓reduceIte,reduceCtorEq]
    exact b7 rfl h0 rfl
   ·have hnx:=hnx (by rw[hck];exact hn fun h=>h5 h.2.2)
    have h5':=yN.2 h5
    generalize p5 x m=ph at*
    obtain ⟨xk,xp,xa,xb⟩:=x
    simp (disch:=first|omega|exact f6|fail) only[WA,Nat.reduceEqDiff,Nat.reduceLT,↓reduceIte,reduceCtorEq,vU,e1,hld,e2]
    all_goals try (exfalso;omega)
    refine a6 (by rw[hC];exact htr.flat rfl rfl) ?_
    simp (disch:=first|omega|exact f6|(simp only[i6]<;>omega)) only[WA,Nat.reduceEqDiff,Nat.reduceLT,Nat.reduceAdd,↓reduceIte,reduceCtorEq,List.replicate]
    all_goals try (exfalso;omega)
    refine a6 (by rw[hC];exact hchk.flat rfl rfl) ?_
    simp (disch:=first|exact f6|(simp only[i6]<;>omega)) only[WA,Nat.reduceEqDiff,Nat.reduceLT,↓reduceIte,reduceCtorEq]
    refine a6 (by rw[hC];exact hph.flat rfl rfl) ?_
    simp (disch:=first|omega|exact f6|fail) only[WA,Nat.reduceEqDiff,Nat.reduceLT,↓reduceIte,reduceCtorEq,h5']
    exact ⟨20 - (i+1),_,_,by omega,p9 [(0,0)] 1 h0 rfl rfl rfl rfl,i+1,rfl,by omega,hnx,rfl,rfl⟩
 ·have:i=20:=by omega
  subst this
  have hr:V2 s=none:=EQ (cand:=sV) (fun hx a b=>aM7 hx a b) fun k p h1 h2=>by
   have:=hno (2*(k - 1)+if p=true then 1 else 0) (by split<;>omega)
   have e1:(2*(k - 1)+if p=true then 1 else 0) / 2+1=k:=by split<;>omega
   have e2:decide ((2*(k - 1)+if p=true then 1 else 0) % 2=1)=p:=by
    cases p
    ·exact decide_eq_false (by rw[if_neg (by decide)];omega)
    ·exact decide_eq_true (by rw[if_pos rfl];omega)
   rwa [e1,e2] at this
  rw[hr]
  simp (disch:=first|omega|exact f6|(simp only[i6]<;>omega)) only[WA,Nat.reduceEqDiff,Nat.reduceLT,↓reduceIte,reduceCtorEq,vU]
  all_goals try (exfalso;omega)
  exact b7 rfl h0 rfl
theorem aG7 (s:List UInt8) (hs:s.length≤100000):k8 (EN w (n+1)) 58 [m6 s] (.sl 3 (n5 s).length ((n5 s).map sD)) ⟨[],0,0⟩:=by
 refine A2 rfl rfl (fun _ _=>rfl) (Nat.le_of_ble_eq_true rfl) (d7 w) S7 rfl fun C hC h0=>?_
 have hrn:C.E.rounds=A4:=by rw[hC,j5]
 have hsz:=n4 s
 have hsl:=X8 s
 simp (disch:=first|exact f6|fail) only[WA,Nat.reduceEqDiff,Nat.reduceLT,↓reduceIte,reduceCtorEq,c58]
 refine s8 (fun m fr st=>∃ (dn:List (List UInt8)) (p x r:List UInt8) (i:Nat),m=s.length - i∧s=p++(x++r)∧n5 s=dn++BR x (n5 r)∧(i=p.length+x.length∨(x= []∧i+1=p.length∧s[i]! =32))∧fr= [(0,m6 s),(3,.gr 2 0 dn.length),(4,.sc (.int .i64 p.length)),(5,.sc (.int .i64 i))]∧st=⟨[(0,.gro 9 1 false (dn.map sD))],1,0⟩) s.length ?_ ⟨_,_,L3 3 9 1 rfl,[],[],[],s,0,by omega,rfl,by rw[PD (U0 s)];rfl,.inl rfl,rfl,rfl⟩ ?_
 ·rw[hrn];unfold A4;omega
 rintro m fr st ⟨dn,p,x,r,i,rfl,hsp,hsc,hi,rfl,rfl⟩
 have hll:s.length=p.length+(x.length+r.length):=by rw[hsp];simp
 have hdl:dn.length≤s.length:=by
  have h1:=congrArg List.length hsc
  have h2:1≤(BR x (n5 r)).length:=by cases n5 r<;>simp[BR]
  rw[List.length_append] at h1
  omega
 have hdm:(dn.map sD).length=dn.length:=by rw[List.length_map]
 have hdrop:s.drop p.length=x++r:=by rw[hsp,List.drop_left]
 have e1:=fX s .i64 p.length (by omega) (by omega)
 rw[Int.toNat_natCast,hdrop] at e1
 have hlast:(r= []∨∃ c,r= [c])→n5 s=dn++ [x++r]:=by
  rintro (rfl|⟨c,rfl⟩)
  ·rw[hsc];simp[n5,BR]
  ·rw[hsc];simp[n5,BR]
 have hend:(r= []∨∃ c,r= [c])→w5 ([(2,.gro 9 1 false (dn.map sD++ [sD (x++r)])),(1,.row 9 1 false false [sD (x++r)])]:E7) (.gr 2 2 (dn.length+1))=some (.sl 2 (n5 s).length ((n5 s).map sD)):=fun h=>by
  rw[hlast h]
  have:=zR (H:= [(2,.gro 9 1 false (dn.map sD++ [sD (x++r)])),(1,.row 9 1 false false [sD (x++r)])]) (o:=2) (t:=9) (n:=dn.length+1) (z:=false) (l:=dn.map sD++ [sD (x++r)]) rfl (by simp)
  rw[this]
  simp
 rcases hi with rfl|⟨rfl,hi,h32⟩
 ·by_cases hr:r= []∨∃ c,r= [c]
  ·have hr1:r.length≤1:=by rcases hr with rfl|⟨c,rfl⟩<;>simp
   have hend:=hend hr
   generalize x++r=q at*
   simp (disch:=first|omega|exact f6|(simp only[i6]<;>omega)) only[WA,Nat.reduceEqDiff,Nat.reduceLT,Nat.reduceAdd,↓reduceIte,reduceCtorEq,vT,hsz,e1,lH]
   all_goals try (exfalso;omega)
   exact bL hend rfl (.inl (by decide)) h0 rfl
  ·obtain ⟨c,d,r',rfl⟩:∃ c d r',r=c::d::r':=by
    rcases r with _|⟨c,_|⟨d,r'⟩⟩
    ·exact absurd (.inl rfl) hr
    ·exact absurd (.inr ⟨c,rfl⟩) hr
    ·exact ⟨c,d,r',rfl⟩
   have hg1:s[p.length+x.length]! =c:=by
    rw[hsp,← List.append_assoc,getElem!_pos _ _ (by simp),List.getElem_append_right (by simp)]
    simp
   have hg2:s[p.length+x.length+1]! =d:=by
    rw[hsp,← List.append_assoc,getElem!_pos _ _ (by simp;omega),List.getElem_append_right (by simp)]
    simp
   have hl2:(c::d::r').length=r'.length+2:=rfl
   have hb:=U8 s .i64 ((p.length+x.length:Nat):Int) (by omega) (by omega)
   have hb2:=U8 s .i64 (((p.length+x.length:Nat):Int)+1) (by omega) (by omega)
   rw[Int.toNat_natCast,hg1] at hb
   rw[show (((p.length+x.length:Nat):Int)+1).toNat=p.length+x.length+1 from by omega,hg2] at hb2
   have e2:=sC s .i64 .i64 (p.length:Int) ((p.length+x.length:Nat):Int) (by omega) (by omega) (by omega)
   simp only[Int.toNat_natCast] at e2
   rw[show List.take (p.length+x.length - p.length) (List.drop p.length s)=x from by rw[hdrop,Nat.add_sub_cancel_left,List.take_left]] at e2
   by_cases h44:c=44
   ·subst h44
    rw[show (((44:UInt8).toNat:Nat):Int)=44 from rfl] at hb
    by_cases hd32:d=32
    ·subst hd32
     rw[show (((32:UInt8).toNat:Nat):Int)=32 from rfl] at hb2
     have hpl:(((p++(x++([44,32]:List UInt8))).length:Nat):Int)=((p.length+x.length:Nat):Int)+2:=by
      simp only[List.length_append,List.length_cons,List.length_nil]
      omega
     simp (disch:=first|omega|exact f6|(simp only[i6]<;>omega)) only[WA,Nat.reduceEqDiff,Nat.reduceLT,Nat.reduceAdd,↓reduceIte,reduceCtorEq,vT,hsz,hb,hb2,e2,lH]
     all_goals try (exfalso;omega)
     refine ⟨s.length - (p.length+x.length+1),_,_,by omega,p9 [(2,0)] 1 h0 rfl rfl rfl rfl,dn++ [x],p++(x++ [44,32]),[],r',p.length+x.length+1,rfl,by rw[hsp];simp,?_,.inr ⟨rfl,by simp;omega,hg2⟩,?_,by rw[List.map_append];rfl⟩
     ·rw[hsc,n5,if_pos ⟨rfl,rfl⟩,PD (U0 r')]
      simp[BR]
     ·rw[hpl,List.length_append]
      rfl
    ·have hd:¬ ((d.toNat:Nat):Int)=32:=fun h=>hd32 (UInt8.toNat_inj.1 (show d.toNat=32 by omega))
     simp (disch:=first|omega|exact f6|(simp only[i6]<;>omega)) only[WA,Nat.reduceEqDiff,Nat.reduceLT,↓reduceIte,reduceCtorEq,vT,hsz,hb,hb2,hd]
     all_goals try (exfalso;omega)
     refine ⟨s.length - (p.length+x.length+1),_,_,by omega,.refl _ _,dn,p,x++ [44],d::r',p.length+x.length+1,rfl,by rw[hsp];simp,?_,.inl (by simp;omega),rfl,rfl⟩
     rw[hsc,O1 (fun h=>hd32 h.2),EK _ _ (U0 _)]
   ·have hd:¬ ((c.toNat:Nat):Int)=44:=fun h=>h44 (UInt8.toNat_inj.1 (show c.toNat=44 by omega))
    simp (disch:=first|omega|exact f6|fail) only[WA,Nat.reduceEqDiff,Nat.reduceLT,↓reduceIte,reduceCtorEq,vT,hsz,hb,hd]
    all_goals try (exfalso;omega)
    refine ⟨s.length - (p.length+x.length+1),_,_,by omega,.refl _ _,dn,p,x++ [c],d::r',p.length+x.length+1,rfl,by rw[hsp];simp,?_,.inl (by simp;omega),rfl,rfl⟩
    rw[hsc,O1 (fun h=>h44 h.1),EK _ _ (U0 _)]
 ·have hb:=U8 s .i64 i (by omega) (by omega)
  rw[Int.toNat_natCast,h32,show (((32:UInt8).toNat:Nat):Int)=32 from rfl] at hb
  by_cases hr:r= []
  ·have hend:=hend (.inl hr)
   have hr1:r.length=0:=by rw[hr];rfl
   have hx0:([]:List UInt8).length=0:=rfl
   generalize []++r=q at*
   simp (disch:=first|omega|exact f6|(simp only[i6]<;>omega)) only[WA,Nat.reduceEqDiff,Nat.reduceLT,Nat.reduceAdd,↓reduceIte,reduceCtorEq,vT,hsz,e1,lH]
   all_goals try (exfalso;omega)
   exact bL hend rfl (.inl (by decide)) h0 rfl
  ·have hr1:1≤r.length:=List.length_pos_iff.2 hr
   have hx0:([]:List UInt8).length=0:=rfl
   simp (disch:=first|omega|exact f6|fail) only[WA,Nat.reduceEqDiff,Nat.reduceLT,Int.reduceEq,↓reduceIte,reduceCtorEq,vT,hsz,hb]
   all_goals try (exfalso;omega)
   exact ⟨s.length - (i+1),_,_,by omega,.refl _ _,dn,p,[],r,i+1,rfl,hsp,hsc,.inl (by rw[hx0];omega),rfl,rfl⟩
end
section
variable (w:World) (n:Nat)
theorem aH3 {C:D0} (hC:C.E=EN w (n+5)) (h0:C.w0.nx=0) (s:List UInt8) (q:List (List UInt8)) (k:Int) (acc:List p7) (x:p7) (m:Nat) (hm:acc.length+m≤200) {K:List KF} {P:B5}
  (hgo:gK C K (.exit 2) [(0,m6 s),(4,.gr 2 0 (acc++List.replicate m x).length),(5,.sl 3 q.length (q.map sD)),(6,.sc (.int .i64 k)),(7,.ptr 1 0),(8,.sc (.int .i64 m)),(9,.sc (.int .i64 m)),(42,.sc (.bool false))] ⟨[(0,.gro 89 4 false (A5 (acc++List.replicate m x))),(1,cI x)],2,0⟩ P):
  gL C [0,4,5,6,7,8,9] WQ K [(0,m6 s),(4,.gr 2 0 acc.length),(5,.sl 3 q.length (q.map sD)),(6,.sc (.int .i64 k)),(7,.ptr 1 0),(8,.sc (.int .i64 m)),(9,.sc (.int .i64 0))] ⟨[(1,cI x),(0,.gro 89 4 false (A5 acc))],2,0⟩ P:=by
 have hrn:C.E.rounds=A4:=by rw[hC,j5]
 refine s8 (fun mm fr st=>∃ i:Nat,mm=m - i∧i≤m∧fr= [(0,m6 s),(4,.gr 2 0 (acc++List.replicate i x).length),(5,.sl 3 q.length (q.map sD)),(6,.sc (.int .i64 k)),(7,.ptr 1 0),(8,.sc (.int .i64 m)),(9,.sc (.int .i64 i))]∧st=⟨[(0,.gro 89 4 false (A5 (acc++List.replicate i x))),(1,cI x)],2,0⟩) m ?_ ⟨_,_,GW (CB _ _),0,by omega,Nat.zero_le _,by simp,by simp⟩ ?_
 ·rw[hrn];unfold A4;omega
 rintro mm fr st ⟨i,rfl,hi,rfl,rfl⟩
 by_cases hlt:i<m
 ·have hsn:=FU (acc++List.replicate i x) x
  have hl:(acc++List.replicate i x).length=acc.length+i:=by simp
  have hd:=G3 (acc++List.replicate i x)
  have hrs:acc++List.replicate (i+1) x=acc++List.replicate i x++ [x]:=by rw[List.replicate_succ'];simp
  rw[hl] at hd ⊢
  generalize acc++List.replicate i x=A at*
  generalize A5 A=AD at*
  obtain ⟨xk,xp,xa,xb⟩:=x
  simp (disch:=first|omega|exact f6|(simp only[i6]<;>omega)) only[WA,Nat.reduceEqDiff,Nat.reduceLT,Nat.reduceAdd,↓reduceIte,reduceCtorEq,WQ,FA]
  all_goals try (exfalso;omega)
  refine ⟨m - (i+1),_,_,by omega,p9 [(3,0),(1,1)] 2 h0 rfl rfl rfl rfl,i+1,rfl,by omega,?_,?_⟩
  ·rw[hrs,List.length_append,hl];rfl
  ·rw[hrs,hsn];rfl
 ·have:i=m:=by omega
  subst this
  generalize A5 (acc++List.replicate i x)=AD at*
  generalize (acc++List.replicate i x).length=al at*
  simp (disch:=first|omega|exact f6|fail) only[WA,Nat.reduceEqDiff,Nat.reduceLT,↓reduceIte,reduceCtorEq,WQ]
  exact hgo
theorem aH4 (s:List UInt8) (hs:s.length≤100000):k8 (EN w (n+6)) 41 [m6 s] (aM8 (I3 s)) ⟨[],0,0⟩:=by
 have hsz:=n4 s
 rw[pK]
 by_cases h1:2000<s.length
 ·rw[if_pos h1]
  refine A2 rfl rfl (fun _ _=>rfl) (Nat.le_of_ble_eq_true rfl) (d7 w) T8 rfl fun C hC h0=>?_
  simp (disch:=first|omega|exact f6|fail) only[WA,Nat.reduceEqDiff,Nat.reduceLT,↓reduceIte,reduceCtorEq,c41,hsz]
  all_goals try (exfalso;omega)
  exact E5 h0 rfl
 rw[if_neg h1]
 have hnt:((⟨s.toArray⟩:ByteArray)=⟨#[110,111,116,104,105,110,103]⟩)=(s=H6):=X0 s H6
 by_cases h2:s=H6
 ·rw[if_pos h2]
  refine A2 rfl rfl (fun _ _=>rfl) (Nat.le_of_ble_eq_true rfl) (d7 w) T8 rfl fun C hC h0=>?_
  rw[eq_true h2] at hnt
  have hl7:s.length≤2000:=by omega
  simp (disch:=first|omega|exact f6|(simp only[i6]<;>omega)) only[WA,Nat.reduceEqDiff,Nat.reduceLT,↓reduceIte,reduceCtorEq,c41,hsz,hnt]
  all_goals try (exfalso;omega)
  exact E5 h0 rfl
 rw[if_neg h2]
 have hsp:=aG7 w (n+4) s (by omega)
 have hsl:=X8 s
 have hsm:=fY s
 have hsn:=U0 s
 generalize n5 s=q at*
 refine A2 rfl rfl (fun _ _=>rfl) (Nat.le_of_ble_eq_true rfl) (d7 w) (by
  cases iB q [] with
  |none=>exact T8
  |some L=>simp only;split<;>exact T8) rfl fun C hC h0=>?_
 have hrn:C.E.rounds=A4:=by rw[hC,j5]
 simp (disch:=first|omega|exact f6|fail) only[WA,Nat.reduceEqDiff,Nat.reduceLT,↓reduceIte,reduceCtorEq,c41,hsz,hnt,h2]
 all_goals try (exfalso;omega)
 refine k9 (by rw[hC];exact hsp) rfl rfl (fun _=>rfl) ?_
 repeat' (first|(simp (disch:=fail) only[WA,l6,p8,Nat.reduceEqDiff,Nat.reduceLT,Nat.reduceAdd,Nat.reduceBEq,Int.reduceAdd,Int.reduceSub,Int.reduceLT,Int.reduceLE,Int.reduceEq,Int.reduceNeg,↓reduceIte,reduceCtorEq,List.replicate])|apply s7|((first|apply D5|apply y9|apply z6|apply D6|apply D4|apply z7)<;>intro _))
 refine s8 (fun m fr st=>∃ (k:Nat) (acc:List p7),m=q.length - k∧k≤q.length∧acc.length≤200∧(∀ x ∈ acc,D1 x)∧iB q []=iB (q.drop k) acc∧fr= [(0,m6 s),(4,.gr 2 0 acc.length),(5,.sl 3 q.length (q.map sD)),(6,.sc (.int .i64 k))]∧st=⟨[(0,.gro 89 4 false (A5 acc))],1,0⟩) q.length ?_ ⟨_,_,L3 4 89 4 rfl,0,[],by omega,Nat.zero_le _,Nat.zero_le _,(fun x hx=>by cases hx),rfl,rfl,rfl⟩ ?_
 ·rw[hrn];unfold A4;omega
 rintro m fr st ⟨k,acc,rfl,hk,hal,hap,hraw,rfl,rfl⟩
 by_cases hlt:k<q.length
 ·have hqk:q.drop k=q[k]! ::q.drop (k+1):=by rw[List.drop_eq_getElem_cons hlt,getElem!_pos q k hlt]
  have hpl:=hsm q[k]! (by rw[getElem!_pos q k hlt];exact List.getElem_mem hlt)
  have hrd:=bV3 w (n+1) q[k]! (by omega)
  rw[hqk,iB] at hraw
  generalize hp:q[k]! =p at*
  cases hr:V2 p with
  |none=>
   rw[hr] at hrd hraw
   rw[hraw]
   unfold Z8 at hrd
   simp (disch:=first|omega|exact f6|fail) only[WA,Nat.reduceEqDiff,Nat.reduceLT,↓reduceIte,reduceCtorEq,vS,hp]
   all_goals try (exfalso;omega)
   refine a6 (by rw[hC];exact hrd.flat rfl rfl) ?_
   simp (disch:=first|exact f6|(simp only[i6]<;>omega)) only[WA,Nat.reduceEqDiff,Nat.reduceLT,Nat.reduceAdd,↓reduceIte,reduceCtorEq,List.replicate]
   exact E5 h0 rfl
  |some xm=>
   obtain ⟨x,z⟩:=xm
   obtain ⟨hx,hz,hps⟩:=nL hr
   rw[hr] at hrd hraw
   simp only at hraw
   unfold Z8 at hrd
   obtain ⟨m,rfl⟩:=Int.eq_ofNat_of_zero_le (show 0≤z by omega)
   by_cases hgt:200<(acc.length:Int)+(m:Int)
   ·rw[if_pos hgt] at hraw
    rw[hraw]
    obtain ⟨xk,xp,xa,xb⟩:=x
    simp (disch:=first|omega|exact f6|fail) only[WA,Nat.reduceEqDiff,Nat.reduceLT,↓reduceIte,reduceCtorEq,vS,hp]
    all_goals try (exfalso;omega)
    refine a6 (by rw[hC];exact hrd.flat rfl rfl) ?_
    simp (disch:=first|omega|exact f6|(simp only[i6]<;>omega)) only[WA,Nat.reduceEqDiff,Nat.reduceLT,Nat.reduceAdd,↓reduceIte,reduceCtorEq,List.replicate]
    all_goals try (exfalso;omega)
    exact E5 h0 rfl
   ·rw[if_neg hgt,Int.toNat_natCast] at hraw
    have hin:=fun K P hg=>aH3 w n hC h0 s q k acc x m (by omega) (K:=K) (P:=P) hg
    obtain ⟨xk,xp,xa,xb⟩:=x
    simp (disch:=first|omega|exact f6|fail) only[WA,Nat.reduceEqDiff,Nat.reduceLT,↓reduceIte,reduceCtorEq,vS,hp]
    all_goals try (exfalso;omega)
    refine a6 (by rw[hC];exact hrd.flat rfl rfl) ?_
    simp (disch:=first|omega|exact f6|(simp only[i6]<;>omega)) only[WA,Nat.reduceEqDiff,Nat.reduceLT,Nat.reduceAdd,↓reduceIte,reduceCtorEq,List.replicate]
    all_goals try (exfalso;omega)
    refine hin _ _ ?_
    generalize hA:acc++List.replicate m ⟨xk,xp,xa,xb⟩=A at*
    have hAl:A.length≤200:=by rw[← hA];simp;omega
    have hAp:∀ y ∈ A,D1 y:=fun y hy=>by
     rw[← hA] at hy
     rcases List.mem_append.1 hy with hy|hy
     ·exact hap y hy
     ·rw[List.eq_of_mem_replicate hy];exact hx
    simp (disch:=first|omega|exact f6|fail) only[WA,Nat.reduceEqDiff,Nat.reduceLT,↓reduceIte,reduceCtorEq]
    exact ⟨q.length - (k+1),_,_,by omega,p9 [(0,0)] 1 h0 rfl rfl rfl rfl,k+1,A,rfl,by omega,hAl,hAp,hraw,rfl,rfl⟩
 ·have:k=q.length:=by omega
  subst this
  rw[List.drop_length,iB] at hraw
  rw[hraw]
  simp only
  have hd:=G3 acc
  have ha:=JH w (n+2) 2 acc (by omega) fun y hy=>by have:=(hap y hy).bounds;omega
  have hwr:=fun hok=>QJ w (n+1) 2 acc hal hok
  have hok0:=fun h:K3 acc=0=>(Y2 h).2.1
  have h1:∀ st:l9,f7 st.own 0=some (.gro 89 4 false (A5 acc))→J7 st.own [.gr 2 0 acc.length]=some [.sl 2 acc.length (A5 acc)]:=fun st h=>FK (qD h hd)
  have hfin:w5 ([(0,.gro 89 4 false (A5 acc))]:E7) (.gr 2 0 acc.length)=some (.sl 2 acc.length (A5 acc)):=qD rfl hd
  by_cases h3:K3 acc=0
  ·have hwr:=hwr (hok0 h3)
   rw[h3] at ha
   have hmj:((⟨(s9 acc).toArray⟩:ByteArray)=⟨s.toArray⟩)=(s9 acc=s):=X0 _ _
   by_cases h4:s9 acc=s
   ·rw[if_pos ⟨h3,h4⟩]
    rw[h4] at hwr
    simp (disch:=first|omega|exact f6|fail) only[WA,Nat.reduceEqDiff,Nat.reduceLT,↓reduceIte,reduceCtorEq,vS]
    all_goals try (exfalso;omega)
    refine a6 (by rw[hC];exact ha.flat rfl (h1 _ rfl)) ?_
    simp (disch:=first|exact f6|fail) only[WA,Nat.reduceEqDiff,Nat.reduceLT,↓reduceIte,reduceCtorEq]
    refine a6 (by rw[hC];exact hwr.flat rfl (h1 _ rfl)) ?_
    simp (disch:=first|exact f6|fail) only[WA,Nat.reduceEqDiff,Nat.reduceLT,↓reduceIte,reduceCtorEq]
    exact SI (s:=2) (n:=acc.length) (l:=A5 acc) hfin rfl (.inl (by decide)) h0 rfl
   ·rw[if_neg fun h=>h4 h.2]
    rw[eq_false h4] at hmj
    generalize s9 acc=W at*
    simp (disch:=first|omega|exact f6|fail) only[WA,Nat.reduceEqDiff,Nat.reduceLT,↓reduceIte,reduceCtorEq,vS]
    all_goals try (exfalso;omega)
    refine a6 (by rw[hC];exact ha.flat rfl (h1 _ rfl)) ?_
    simp (disch:=first|exact f6|fail) only[WA,Nat.reduceEqDiff,Nat.reduceLT,↓reduceIte,reduceCtorEq]
    refine a6 (by rw[hC];exact hwr.flat rfl (h1 _ rfl)) ?_
    simp (disch:=first|exact f6|(simp only[i6]<;>omega)) only[WA,Nat.reduceEqDiff,Nat.reduceLT,↓reduceIte,reduceCtorEq,hmj]
    exact E5 h0 rfl
  ·rw[if_neg fun h=>h3 h.1]
   generalize K3 acc=e at*
   simp (disch:=first|omega|exact f6|fail) only[WA,Nat.reduceEqDiff,Nat.reduceLT,↓reduceIte,reduceCtorEq,vS]
   all_goals try (exfalso;omega)
   refine a6 (by rw[hC];exact ha.flat rfl (h1 _ rfl)) ?_
   simp (disch:=first|omega|exact f6|fail) only[WA,Nat.reduceEqDiff,Nat.reduceLT,↓reduceIte,reduceCtorEq]
   all_goals try (exfalso;omega)
   exact E5 h0 rfl
end
end Go.Proofs.YtimmmnanllcfoaaGreatDoor
namespace Go.Itp
set_option linter.unusedVariables false
set_option linter.unusedSimpArgs false
set_option maxRecDepth 10000
def JQ:List UInt8:= [114,111,119,32]
def yM:List UInt8:= [32,40]
def IC:List UInt8:= [41,58,32]
def lR (b:Bool) (n:Int) (c s:List UInt8):Option (Bool × List p7 × Int):=match s5 (W4 b++IC) c with
 |none=>none
 |some t=>if (I3 t).2=0∧B7 b (I3 t).1 n=(s,0) then some (b,(I3 t).1,n) else none
def BS (s:List UInt8):Option (Bool × List p7 × Int):=match C0 [JQ,yM] s with
 |none=>none
 |some (m,r)=>match J4 [46] r with
  |none=>none
  |some c=>match lR false (m.headD 0) c s with
   |some x=>some x
   |none=>lR true (m.headD 0) c s
theorem GC {b:Bool} {n:Int} {c s:List UInt8} {x:Bool × List p7 × Int} (h:lR b n c s=some x):T6 s=some x:=by
 unfold lR at h
 split at h
 ·cases h
 ·split at h
  ·rename_i hh
   cases h
   exact yV hh.2
  ·cases h
theorem aG6 {s:List UInt8} {x:Bool × List p7 × Int} (h:BS s=some x):T6 s=some x:=by
 unfold BS at h
 split at h
 ·cases h
 split at h
 ·cases h
 split at h
 ·rename_i he
  cases h
  exact GC he
 ·exact GC h
theorem EI {L:List p7} {t:List UInt8} (h:A0 L=(t,0)):I3 t=(L,0):=by
 unfold I3
 rw[nK h]
theorem aG4 {t:List UInt8} (h:(I3 t).2=0):A0 (I3 t).1=(t,0):=by
 unfold I3 at h ⊢
 cases e:aX t with
 |none=>rw[e] at h;exact absurd h (by decide)
 |some L=>exact pS e
theorem bH9 {b:Bool} {L:List p7} {n:Int} {s:List UInt8} (h:B7 b L n=(s,0)):BS s=some (b,L,n):=by
 obtain ⟨hn,hc,hr,_⟩:=cZ (by rw[h]:(B7 b L n).2=0)
 have hs:s=y8 b n++s9 L++ [46]:=by rw[h] at hr;exact congrArg Prod.fst hr
 have e:s=JQ++(Lib.itoa n++(yM++((W4 b++IC++s9 L)++ [46]))):=by
  rw[hs];simp[y8,VJ,JQ,lU,yM,IC]
 have hnd:∀ r,R1 (yM++r):=fun r c hc=>by
  simp only[yM,List.cons_append,List.head?_cons,Option.some.injEq] at hc
  subst hc;decide
 have hm:C0 [JQ,yM] s=some ([n],(W4 b++IC++s9 L)++ [46]):=by
  rw[e]
  unfold C0
  simp only[G0]
  unfold S6
  rw[W7 (by omega) (by omega) (hnd _),if_neg oY,cE (by omega) (by omega) (hnd _),G0]
  simp only[S6,eJ (show 0≤n by omega),List.nil_append]
 have ht:lR b n (W4 b++IC++s9 L) s=some (b,L,n):=by
  unfold lR
  rw[G0]
  simp only[EI hc,h,and_self,if_true]
 unfold BS
 rw[hm]
 simp only[wD,List.headD_cons]
 cases b with
 |false=>rw[ht]
 |true=>
  have h0:lR false n (W4 true++IC++s9 L) s=none:=by
   unfold lR
   have:s5 (W4 false++IC) (W4 true++IC++s9 L)=none:=by
    unfold s5
    rw[if_neg]
    rintro ⟨_,h2⟩
    simp[W4,IC] at h2
   rw[this]
  rw[h0,ht]
theorem bH8 (s:List UInt8):BS s=T6 s:=by
 cases h:T6 s with
 |some x=>
  obtain ⟨b,L,n⟩:=x
  exact bH9 (yW h)
 |none=>
  cases hp:BS s with
  |none=>rfl
  |some x=>rw[aG6 hp] at h;cases h
theorem aE7 (b:Bool) (n:Int):1≤(y8 b n).length:=by simp only[y8,VJ,List.length_append,List.length_cons];omega
def pX (b:Bool) (n:Int) (s:List UInt8):Option (Bool × List p7 × Int):=
 if (s5 (y8 b n) s).isSome=true∧s.length ≠ (y8 b n).length∧s[s.length - 1]! =46∧(I3 ((s.take (s.length - 1)).drop (y8 b n).length)).2=0 then some (b,(I3 ((s.take (s.length - 1)).drop (y8 b n).length)).1,n) else none
theorem FE {b:Bool} {n:Int} {s:List UInt8} {x:Bool × List p7 × Int} (h0:1≤n) (h1:n≤100) (h:pX b n s=some x):T6 s=some x:=by
 unfold pX at h
 split at h
 ·rename_i hh
  obtain ⟨c1,c2,c3,c4⟩:=hh
  cases h
  have hc:=aG4 c4
  have hr:=bI4 (b:=b) h0 h1 hc
  have:y8 b n++(s.take (s.length - 1)).drop (y8 b n).length++ [46]=s:=by
   unfold s5 at c1
   split at c1
   ·rename_i hq
    obtain ⟨q1,q2⟩:=hq
    have hl:(y8 b n).length≤s.length - 1:=by omega
    have e1:(s.take (s.length - 1)).take (y8 b n).length=y8 b n:=by rw[List.take_take,Nat.min_eq_left hl,q2]
    have e2:=List.take_append_drop (y8 b n).length (s.take (s.length - 1))
    rw[e1] at e2
    rw[e2]
    have hlt:s.length - 1<s.length:=by have:=aE7 b n;omega
    rw[getElem!_pos s _ hlt] at c3
    have e3:=List.take_append_drop (s.length - 1) s
    rw[List.drop_eq_getElem_cons hlt,c3,List.drop_eq_nil_of_le (by omega)] at e3
    exact e3
   ·cases c1
  rw[this] at hr
  exact yV hr
 ·cases h
theorem FD {b:Bool} {n:Int} {s:List UInt8} (h:pX b n s=none) (L:List p7):B7 b L n ≠ (s,0):=fun e=>by
 obtain ⟨hn,hc,hr,_⟩:=cZ (by rw[e]:(B7 b L n).2=0)
 have hs:s=y8 b n++s9 L++ [46]:=by rw[e] at hr;exact congrArg Prod.fst hr
 have h1:s5 (y8 b n) s=some (s9 L++ [46]):=by rw[hs,List.append_assoc,G0]
 have hl:s.length=(y8 b n).length+(s9 L).length+1:=by rw[hs];simp only[List.length_append,List.length_cons,List.length_nil]
 have h2:(s.take (s.length - 1)).drop (y8 b n).length=s9 L:=by
  rw[hl,Nat.add_sub_cancel,hs,List.take_append_of_le_length (by simp),List.take_of_length_le (by simp),List.drop_left]
 have h3:s[s.length - 1]! =46:=by
  rw[getElem!_pos s _ (by omega)]
  simp only[hs]
  rw[List.getElem_append_right (by simp)]
  simp
 unfold pX at h
 rw[if_pos ⟨by rw[h1];rfl,by omega,h3,by rw[h2,EI hc]⟩] at h
 cases h
theorem aX8 {s:List UInt8} (h:∀ n:Int,1≤n→n≤100→pX false n s=none∧pX true n s=none):T6 s=none:=
 VB fun b L n e=>by
  obtain ⟨hn,_⟩:=cZ (by rw[e]:(B7 b L n).2=0)
  have:=h n hn.1 hn.2
  cases b with
  |false=>exact FD this.1 L e
  |true=>exact FD this.2 L e
end Go.Itp
namespace Go.Proofs.YtimmmnanllcfoaaGreatDoor
open Go Go.Itp
set_option maxRecDepth 100000
set_option maxHeartbeats 400000
set_option linter.unusedSimpArgs false
set_option linter.unusedVariables false
abbrev bI5 (b:Bool) (s:Nat) (L:List p7):V:= .agg [.sc (.bool b),.sl s L.length (A5 L)]
theorem oU (b:Bool) (z:Int) (r:List UInt8):y8 b z++r= [114,111,119,32]++(Lib.itoa z++([32,40]++(W4 b++([41,58,32]++r)))):=by simp[y8,VJ,lU]
theorem vW {L:List p7} (h:(A0 L).2=0):(A0 L).1.length≤2000:=by
 have h4:=(Y8 h).2
 rw[h4]
 unfold A0 at h h4
 split at h
 ·split at h
  ·exact absurd h (by decide)
  ·show (s9 L).length≤2000
   omega
 ·rename_i e
  exact absurd h e
theorem kN (b:Bool):(W4 b).length≤5:=by cases b<;>decide
section
variable (w:World) (n:Nat)
theorem aO5 (b:Bool):k8 (EN w (n+1)) 32 [.sc (.bool b)] (m6 (W4 b)) ⟨[],0,0⟩:=by
 cases b
 all_goals
  refine b8 rfl rfl (fun _ _=>rfl) (Nat.le_of_ble_eq_true rfl) (d7 w) rfl fun C hC h0=>?_
  repeat' (first|(simp (disch:=first|exact f6|fail) only[WA,Nat.reduceEqDiff,Nat.reduceLT,↓reduceIte,reduceCtorEq,c32]))
  exact b7 rfl h0 rfl
theorem aR3 (b:Bool) (z:Int) (h0:0≤z) (h1:z≤9999):k8 (EN w (n+2)) 34 [.sc (.bool b),.sc (.int .i64 z)] (m6 (y8 b z)) ⟨[],0,0⟩:=by
 have hd:=yU w n z h0 (by omega)
 have hl:=C5 h0 h1
 have e:=oU b z []
 rw[List.append_nil] at e
 rw[e]
 generalize Lib.itoa z=A at*
 clear e
 cases b
 all_goals
  refine b8 rfl rfl (fun _ _=>rfl) (Nat.le_of_ble_eq_true rfl) (d7 w) rfl fun C hC h0=>?_
  repeat' (first|(simp (disch:=first|exact f6|fail) only[WA,Nat.reduceEqDiff,Nat.reduceLT,↓reduceIte,reduceCtorEq,c34]))
  refine a6 (by rw[hC];exact hd.flat rfl rfl) ?_
  repeat' (first|(simp (disch:=first|exact f6|(simp only[i6]<;>omega)) only[WA,Nat.reduceEqDiff,Nat.reduceLT,↓reduceIte,K9,List.append_assoc]))
  all_goals try (exfalso;omega)
  exact b7 rfl h0 rfl
theorem bP7 (b:Bool) (s:Nat) (L:List p7) (z:Int) (hL:L.length≤140737488351232) (hK:SU L):k8 (EN w (n+8)) 15 [bI5 b s L,.sc (.int .i64 z)] (.tup [m6 (B7 b L z).1,.sc (.int .i64 (B7 b L z).2)]) ⟨[],0,0⟩:=by
 have ha:=JR w (n+1) s L hL hK
 have hc:=bE6 w n s L hL hK
 have hf:=aO5 w (n+6) b
 have hfl:=kN b
 have hcl:=vW (L:=L)
 unfold B7
 by_cases h0:K3 L=0
 case neg=>
  rw[if_neg h0]
  generalize K3 L=e at*
  refine b8 rfl rfl (fun _ _=>rfl) (Nat.le_of_ble_eq_true rfl) (d7 w) rfl fun C hC h0=>?_
  simp (disch:=first|exact f6|fail) only[WA,Nat.reduceEqDiff,Nat.reduceLT,↓reduceIte,reduceCtorEq,c15]
  refine a6 (by rw[hC];exact ha.flat rfl rfl) ?_
  simp (disch:=first|omega|exact f6|fail) only[WA,Nat.reduceEqDiff,Nat.reduceLT,↓reduceIte]
  all_goals try (exfalso;omega)
  exact b7 rfl h0 rfl
 rw[h0] at ha
 rw[if_pos h0]
 by_cases h1:z<1∨100<z
 ·rw[if_pos h1]
  refine b8 rfl rfl (fun _ _=>rfl) (Nat.le_of_ble_eq_true rfl) (d7 w) rfl fun C hC h0=>?_
  rcases h1 with h1|h1
  all_goals
   repeat' (first|(simp (disch:=first|exact f6|fail) only[WA,Nat.reduceEqDiff,Nat.reduceLT,↓reduceIte,reduceCtorEq,c15]))
   refine a6 (by rw[hC];exact ha.flat rfl rfl) ?_
   repeat' (first|(simp (disch:=first|omega|exact f6|fail) only[WA,Nat.reduceEqDiff,Nat.reduceLT,↓reduceIte]))
   all_goals try (exfalso;omega)
   exact b7 rfl h0 rfl
 rw[if_neg h1]
 by_cases h2:(A0 L).2=0
 ·rw[if_pos h2]
  have hi:=fun st=>UE w (n+6) st z (by omega) (by omega)
  have hil:=C5 (z:=z) (by omega) (by omega)
  have hcl:=hcl h2
  rw[h2] at hc
  generalize (A0 L).1=W at*
  rw[List.append_assoc,oU]
  generalize Lib.itoa z=A at*
  generalize W4 b=F at*
  refine b8 rfl rfl (fun _ _=>rfl) (Nat.le_of_ble_eq_true rfl) (d7 w) rfl fun C hC h0=>?_
  simp (disch:=first|exact f6|fail) only[WA,Nat.reduceEqDiff,Nat.reduceLT,↓reduceIte,reduceCtorEq,c15]
  refine a6 (by rw[hC];exact ha.flat rfl rfl) ?_
  simp (disch:=first|omega|exact f6|fail) only[WA,Nat.reduceEqDiff,Nat.reduceLT,↓reduceIte]
  all_goals try (exfalso;omega)
  refine a6 (by rw[hC];exact hc.flat rfl rfl) ?_
  simp (disch:=first|exact f6|fail) only[WA,l6,p8,Nat.reduceEqDiff,Nat.reduceLT,Nat.reduceAdd,↓reduceIte]
  all_goals try (exfalso;omega)
  refine L5 (by rw[hC];exact hi _) ?_
  simp (disch:=first|exact f6|(simp only[i6]<;>omega)) only[WA,l6,p8,Nat.reduceEqDiff,Nat.reduceLT,Nat.reduceAdd,↓reduceIte,K9,List.append_assoc]
  all_goals try (exfalso;omega)
  refine L5 (by rw[hC];exact hf.flat rfl rfl) ?_
  simp (disch:=first|exact f6|(simp only[i6]<;>omega)) only[WA,l6,p8,Nat.reduceEqDiff,Nat.reduceLT,↓reduceIte,K9,List.append_assoc]
  all_goals try (exfalso;omega)
  exact b7 rfl h0 rfl
 ·rw[if_neg h2]
  generalize (A0 L).2=e at*
  generalize (A0 L).1=W at*
  refine b8 rfl rfl (fun _ _=>rfl) (Nat.le_of_ble_eq_true rfl) (d7 w) rfl fun C hC h0=>?_
  simp (disch:=first|exact f6|fail) only[WA,Nat.reduceEqDiff,Nat.reduceLT,↓reduceIte,reduceCtorEq,c15]
  refine a6 (by rw[hC];exact ha.flat rfl rfl) ?_
  simp (disch:=first|omega|exact f6|fail) only[WA,Nat.reduceEqDiff,Nat.reduceLT,↓reduceIte]
  all_goals try (exfalso;omega)
  refine a6 (by rw[hC];exact hc.flat rfl rfl) ?_
  simp (disch:=first|omega|exact f6|fail) only[WA,Nat.reduceEqDiff,Nat.reduceLT,↓reduceIte]
  all_goals try (exfalso;omega)
  exact b7 rfl h0 rfl
theorem bV4 (b:Bool) (s:Nat) (L:List p7) (z:Int) (hL:L.length≤140737488351232) (hK:SU L):k8 (EN w (n+6)) 19 [bI5 b s L,.sc (.int .i64 z)] (.tup [m6 (B7 b L z).1,.sc (.int .i64 (B7 b L z).2)]) ⟨[],0,0⟩:=by
 have ha:=JH w (n+2) s L hL hK
 have hc:=aW0 w n s L hL hK
 have hcl:=vW (L:=L)
 unfold B7
 by_cases h0:K3 L=0
 case neg=>
  rw[if_neg h0]
  generalize K3 L=e at*
  refine b8 rfl rfl (fun _ _=>rfl) (Nat.le_of_ble_eq_true rfl) (d7 w) rfl fun C hC h0=>?_
  simp (disch:=first|exact f6|fail) only[WA,Nat.reduceEqDiff,Nat.reduceLT,↓reduceIte,reduceCtorEq,c19]
  refine a6 (by rw[hC];exact ha.flat rfl rfl) ?_
  simp (disch:=first|omega|exact f6|fail) only[WA,Nat.reduceEqDiff,Nat.reduceLT,↓reduceIte]
  all_goals try (exfalso;omega)
  exact b7 rfl h0 rfl
 rw[h0] at ha
 rw[if_pos h0]
 by_cases h1:z<1∨100<z
 ·rw[if_pos h1]
  refine b8 rfl rfl (fun _ _=>rfl) (Nat.le_of_ble_eq_true rfl) (d7 w) rfl fun C hC h0=>?_
  rcases h1 with h1|h1
  all_goals
   repeat' (first|(simp (disch:=first|exact f6|fail) only[WA,Nat.reduceEqDiff,Nat.reduceLT,↓reduceIte,reduceCtorEq,c19]))
   refine a6 (by rw[hC];exact ha.flat rfl rfl) ?_
   repeat' (first|(simp (disch:=first|omega|exact f6|fail) only[WA,Nat.reduceEqDiff,Nat.reduceLT,↓reduceIte]))
   all_goals try (exfalso;omega)
   exact b7 rfl h0 rfl
 rw[if_neg h1]
 by_cases h2:(A0 L).2=0
 ·rw[if_pos h2]
  have hh:=aR3 w (n+3) b z (by omega) (by omega)
  have hcl:=hcl h2
  have hhl:(y8 b z).length≤20:=by
   have hil:=C5 (z:=z) (by omega) (by omega)
   have:=kN b
   have e:=congrArg List.length (oU b z [])
   simp only[List.length_append,List.length_cons,List.length_nil] at e
   omega
  rw[h2] at hc
  generalize (A0 L).1=W at*
  rw[List.append_assoc]
  generalize y8 b z=A at*
  refine b8 rfl rfl (fun _ _=>rfl) (Nat.le_of_ble_eq_true rfl) (d7 w) rfl fun C hC h0=>?_
  simp (disch:=first|exact f6|fail) only[WA,Nat.reduceEqDiff,Nat.reduceLT,↓reduceIte,reduceCtorEq,c19]
  refine a6 (by rw[hC];exact ha.flat rfl rfl) ?_
  simp (disch:=first|omega|exact f6|fail) only[WA,Nat.reduceEqDiff,Nat.reduceLT,↓reduceIte]
  all_goals try (exfalso;omega)
  refine a6 (by rw[hC];exact hc.flat rfl rfl) ?_
  simp (disch:=first|exact f6|fail) only[WA,Nat.reduceEqDiff,Nat.reduceLT,↓reduceIte]
  all_goals try (exfalso;omega)
  refine a6 (by rw[hC];exact hh.flat rfl rfl) ?_
  simp (disch:=first|omega|exact f6|(simp only[i6]<;>omega)) only[WA,Nat.reduceEqDiff,Nat.reduceLT,↓reduceIte,K9,List.append_assoc]
  all_goals try (exfalso;omega)
  exact b7 rfl h0 rfl
 ·rw[if_neg h2]
  generalize (A0 L).2=e at*
  generalize (A0 L).1=W at*
  refine b8 rfl rfl (fun _ _=>rfl) (Nat.le_of_ble_eq_true rfl) (d7 w) rfl fun C hC h0=>?_
  simp (disch:=first|exact f6|fail) only[WA,Nat.reduceEqDiff,Nat.reduceLT,↓reduceIte,reduceCtorEq,c19]
  refine a6 (by rw[hC];exact ha.flat rfl rfl) ?_
  simp (disch:=first|omega|exact f6|fail) only[WA,Nat.reduceEqDiff,Nat.reduceLT,↓reduceIte]
  all_goals try (exfalso;omega)
  refine a6 (by rw[hC];exact hc.flat rfl rfl) ?_
  simp (disch:=first|omega|exact f6|fail) only[WA,Nat.reduceEqDiff,Nat.reduceLT,↓reduceIte]
  all_goals try (exfalso;omega)
  exact b7 rfl h0 rfl
theorem aZ1 (s h:List UInt8) (hs:s.length≤1000000):k8 (EN w (n+1)) 40 [m6 s,m6 h] (.sc (.bool (s5 h s).isSome)) ⟨[],0,0⟩:=by
 have h1:=n4 s
 have h2:=n4 h
 unfold s5
 by_cases hl:h.length≤s.length
 ·have e:=cI1 (s.take h.length) h
  have hsl:=qC s .i64 h.length (by omega) (by omega)
  rw[Int.toNat_natCast] at hsl
  by_cases hh:s.take h.length=h
  ·rw[if_pos ⟨hl,hh⟩]
   rw[hh] at hsl
   refine b8 rfl rfl (fun _ _=>rfl) (Nat.le_of_ble_eq_true rfl) (d7 w) rfl fun C hC h0=>?_
   simp (disch:=first|omega|exact f6|(simp only[i6]<;>omega)) only[WA,Nat.reduceEqDiff,Nat.reduceLT,↓reduceIte,reduceCtorEq,c40,h1,h2,hsl]
   all_goals try (exfalso;omega)
   exact b7 rfl h0 rfl
  ·rw[if_neg fun x=>hh x.2]
   have e:¬ ((⟨(s.take h.length).toArray⟩:ByteArray)=⟨h.toArray⟩):=by rw[X0];exact hh
   generalize s.take h.length=T at*
   refine b8 rfl rfl (fun _ _=>rfl) (Nat.le_of_ble_eq_true rfl) (d7 w) rfl fun C hC h0=>?_
   simp (disch:=first|omega|exact f6|fail) only[WA,Nat.reduceEqDiff,Nat.reduceLT,↓reduceIte,reduceCtorEq,c40,h1,h2,hsl,e]
   all_goals try (exfalso;omega)
   exact b7 rfl h0 rfl
 ·rw[if_neg fun x=>hl x.1]
  refine b8 rfl rfl (fun _ _=>rfl) (Nat.le_of_ble_eq_true rfl) (d7 w) rfl fun C hC h0=>?_
  simp (disch:=first|omega|exact f6|fail) only[WA,Nat.reduceEqDiff,Nat.reduceLT,↓reduceIte,reduceCtorEq,c40,h1,h2]
  all_goals try (exfalso;omega)
  exact b7 rfl h0 rfl
end
theorem dB {C:D0} {st:l9} {b x y:Value} (h0:C.w0.nx=0) (hro:st.ro=0):M9 C [(0,.tup [.agg [.sc b,.sc (.slice none 0 0)],.sc x,.sc y])] st [(0,.tup [.agg [.sc b,.sl 3 0 []],.sc x,.sc y])] ⟨[],0,0⟩:=
 (M3 (t:=0) (v:= .tup [.agg [.sc b,.sc (.slice none 0 0)],.sc x,.sc y]) (v':= .tup [.agg [.sc b,.sl 3 0 []],.sc x,.sc y]) rfl (zJ (.cons (zI (.cons (.refl _) (.cons lJ .nil))) (.cons (.refl _) (.cons (.refl _) .nil))))).trans (p9 [] 0 h0 hro rfl rfl rfl)
theorem lG {b x y:Value} {n:Nat} {l:List D}:bM [] (.tup [.agg [.sc b,.sl 3 n l],.sc x,.sc y]):=eD (by simp only[Cl,KQ,and_true];exact ⟨trivial,rfl⟩)
def tW:Option (Bool × List p7 × Int)→V
 |none=> .tup [bI5 false 3 [],.sc (.int .i64 0),.sc (.int .i64 12)]
 |some (b,L,m)=> .tup [bI5 b 3 L,.sc (.int .i64 m),.sc (.int .i64 0)]
theorem US (s:List UInt8):K3 (I3 s).1=0:=by
 unfold I3
 cases h:aX s with
 |none=>rfl
 |some L=>
  have h1:=pS h
  by_cases e:K3 L=0
  ·exact e
  ·unfold A0 at h1
   rw[if_neg e] at h1
   exact absurd (congrArg Prod.snd h1) e
theorem HD {L:List p7} (h:K3 L=0):SU L:=fun x hx=>by
 have:=(B4.1 (List.all_eq_true.1 (Y2 h).2.1 x hx)).bounds
 omega
abbrev bI3 (x y:V):Go.Itp.Obj:= .box 42 1 [x,y]
abbrev tY:Go.Itp.Obj:=bI3 (.sc (.bool false)) (.sc (.slice none 0 0))
section
variable (w:World) (n:Nat)
theorem UY {C:D0} (hC:C.E=EN w (n+9)) (s c:List UInt8) (hs:s.length≤100000) (hc:c.length≤100000) (v:Int) (b:Bool) (j:Int) (hj:(j=0∧b=false)∨(j=1∧b=true)) {P:B5}
  (hgo:lR b v c s=none→∀ st,(st=⟨[(0,tY)],1,0⟩∨∃ x y,st=⟨[(1,bI3 x y),(0,tY)],2,0⟩)→P .normal [(0,m6 s),(2,.ptr 0 0),(5,.sl 3 1 [iD v]),(8,m6 c),(37,.agg [.sc (.bool false),.sc (.bool true)]),(38,.sc (.int .i64 (j+1)))] st)
  (hret:∀ fr st L,lR b v c s=some (b,L,v)→f7 fr 2=some (.ptr 0 0)→f7 fr 3=some (.sc (.int .i64 v))→f7 fr 4=some (.sc (.int .i64 0))→f7 st.own 0=some (bI3 (.sc (.bool b)) (.sl 3 L.length (A5 L)))→st.ro=0→P .ret fr st):
  gC C sS [] [(0,m6 s),(2,.ptr 0 0),(5,.sl 3 1 [iD v]),(8,m6 c),(37,.agg [.sc (.bool false),.sc (.bool true)]),(38,.sc (.int .i64 j))] ⟨[(0,tY)],1,0⟩ P:=by
 have hix:xF 2 1 none (.agg [.sc (.bool false),.sc (.bool true)]) (.sc (.int .i64 j))=some (.sc (.bool b)):=by rcases hj with ⟨rfl,rfl⟩|⟨rfl,rfl⟩<;>rfl
 have hjb:0≤j∧j≤1:=by omega
 clear hj
 have hf:=aO5 w (n+8) b
 have hfl:=kN b
 have hcp:=wC w (n+6) c (W4 b++ [41,58,32]) (by omega)
 have htry:lR b v c s=match s5 (W4 b++ [41,58,32]) c with
  |none=>none
  |some t=>if (I3 t).2=0∧B7 b (I3 t).1 v=(s,0) then some (b,(I3 t).1,v) else none:=rfl
 rw[htry] at hgo hret
 cases hcc:s5 (W4 b++ [41,58,32]) c with
 |none=>
  rw[hcc] at hcp hgo
  clear hret htry hcc
  have hgo:=hgo rfl _ (.inl rfl)
  generalize W4 b=F at*
  simp (disch:=first|omega|exact f6|fail) only[WA,Nat.reduceEqDiff,Nat.reduceLT,↓reduceIte,reduceCtorEq,sS,hix]
  refine a6 (by rw[hC];exact hf.flat rfl rfl) ?_
  simp (disch:=first|exact f6|(simp only[i6]<;>omega)) only[WA,Nat.reduceEqDiff,Nat.reduceLT,↓reduceIte,reduceCtorEq,K9]
  all_goals try (exfalso;omega)
  refine a6 (by rw[hC];exact hcp.flat rfl rfl) ?_
  simp (disch:=first|omega|exact f6|fail) only[WA,Nat.reduceEqDiff,Nat.reduceLT,↓reduceIte,reduceCtorEq,Option.isSome_none,Option.getD_none]
  exact hgo
 |some t=>
  have hle:=W6 hcc
  have htl:t.length≤c.length:=by rw[hle.2,List.length_drop];omega
  rw[hcc] at hcp hgo hret
  clear hle hcc htry
  have ha:=US t
  have hpc:=aU1 w n t (by omega)
  have hrw:=bP7 w (n+1) b 3 (I3 t).1 v (by have:=(Y2 ha).1;omega) (HD ha)
  clear ha
  simp only at hgo hret
  generalize I3 t=q at*
  obtain ⟨L,e⟩:=q
  simp only at hgo hret hpc hrw
  have hd:=G3 L
  have hmj:((⟨(B7 b L v).1.toArray⟩:ByteArray)=⟨s.toArray⟩)=((B7 b L v).1=s):=X0 _ _
  generalize W4 b=F at*
  by_cases he:e=0∧B7 b L v=(s,0)
  ·rw[if_pos he] at hret
   obtain ⟨rfl,h2⟩:=he
   rw[h2] at hrw
   have hret:=fun fr st=>hret fr st L rfl
   clear hgo hmj h2
   simp (disch:=first|omega|exact f6|fail) only[WA,Nat.reduceEqDiff,Nat.reduceLT,↓reduceIte,reduceCtorEq,sS,hix]
   refine a6 (by rw[hC];exact hf.flat rfl rfl) ?_
   simp (disch:=first|exact f6|(simp only[i6]<;>omega)) only[WA,Nat.reduceEqDiff,Nat.reduceLT,↓reduceIte,reduceCtorEq,K9]
   all_goals try (exfalso;omega)
   refine a6 (by rw[hC];exact hcp.flat rfl rfl) ?_
   simp (disch:=first|exact f6|fail) only[WA,Nat.reduceEqDiff,Nat.reduceLT,↓reduceIte,reduceCtorEq,Option.isSome_some,Option.getD_some]
   refine k9 (by rw[hC];exact hpc) rfl rfl (fun _=>rfl) ?_
   simp (disch:=first|omega|exact f6|(simp only[i6]<;>omega)) only[WA,l6,p8,Nat.reduceEqDiff,Nat.reduceLT,Nat.reduceAdd,↓reduceIte,reduceCtorEq,List.replicate,FZ,dl1]
   refine L5 (by rw[hC];exact hrw.flat rfl rfl) ?_
   repeat' (first|(simp (disch:=first|omega|exact f6|(simp only[i6]<;>omega)) only[WA,l6,p8,Nat.reduceEqDiff,Nat.reduceLT,↓reduceIte,reduceCtorEq,FZ,dl1,GG,mU,WZ])|apply s7)
   exact hret _ _ rfl rfl rfl rfl rfl
  ·have hg:=fun x y=>hgo (if_neg he) _ (.inr ⟨x,y,rfl⟩)
   clear hgo hret
   have he:¬ (e=0∧(B7 b L v).2=0∧(B7 b L v).1=s):=fun h=>he ⟨h.1,Prod.ext h.2.2 h.2.1⟩
   generalize B7 b L v=r at*
   obtain ⟨T,g⟩:=r
   simp only at he hrw hmj
   by_cases h1:e=0
   ·by_cases h2:g=0
    ·have h3:¬ T=s:=fun h=>he ⟨h1,h2,h⟩
     subst h1 h2
     rw[eq_false h3] at hmj
     simp (disch:=first|omega|exact f6|fail) only[WA,Nat.reduceEqDiff,Nat.reduceLT,↓reduceIte,reduceCtorEq,sS,hix]
     refine a6 (by rw[hC];exact hf.flat rfl rfl) ?_
     simp (disch:=first|exact f6|(simp only[i6]<;>omega)) only[WA,Nat.reduceEqDiff,Nat.reduceLT,↓reduceIte,reduceCtorEq,K9]
     all_goals try (exfalso;omega)
     refine a6 (by rw[hC];exact hcp.flat rfl rfl) ?_
     simp (disch:=first|exact f6|fail) only[WA,Nat.reduceEqDiff,Nat.reduceLT,↓reduceIte,reduceCtorEq,Option.isSome_some,Option.getD_some]
     refine k9 (by rw[hC];exact hpc) rfl rfl (fun _=>rfl) ?_
     simp (disch:=first|omega|exact f6|(simp only[i6]<;>omega)) only[WA,l6,p8,Nat.reduceEqDiff,Nat.reduceLT,Nat.reduceAdd,↓reduceIte,reduceCtorEq,List.replicate,FZ,dl1]
     refine L5 (by rw[hC];exact hrw.flat rfl rfl) ?_
     simp (disch:=first|omega|exact f6|(simp only[i6]<;>omega)) only[WA,l6,p8,Nat.reduceEqDiff,Nat.reduceLT,↓reduceIte,reduceCtorEq,hmj]
     exact hg _ _
    ·subst h1
     simp (disch:=first|omega|exact f6|fail) only[WA,Nat.reduceEqDiff,Nat.reduceLT,↓reduceIte,reduceCtorEq,sS,hix]
     refine a6 (by rw[hC];exact hf.flat rfl rfl) ?_
     simp (disch:=first|exact f6|(simp only[i6]<;>omega)) only[WA,Nat.reduceEqDiff,Nat.reduceLT,↓reduceIte,reduceCtorEq,K9]
     all_goals try (exfalso;omega)
     refine a6 (by rw[hC];exact hcp.flat rfl rfl) ?_
     simp (disch:=first|exact f6|fail) only[WA,Nat.reduceEqDiff,Nat.reduceLT,↓reduceIte,reduceCtorEq,Option.isSome_some,Option.getD_some]
     refine k9 (by rw[hC];exact hpc) rfl rfl (fun _=>rfl) ?_
     simp (disch:=first|omega|exact f6|(simp only[i6]<;>omega)) only[WA,l6,p8,Nat.reduceEqDiff,Nat.reduceLT,Nat.reduceAdd,↓reduceIte,reduceCtorEq,List.replicate,FZ,dl1]
     refine L5 (by rw[hC];exact hrw.flat rfl rfl) ?_
     simp (disch:=first|omega|exact f6|(simp only[i6]<;>omega)) only[WA,l6,p8,Nat.reduceEqDiff,Nat.reduceLT,↓reduceIte,reduceCtorEq,h2]
     exact hg _ _
   ·simp (disch:=first|omega|exact f6|fail) only[WA,Nat.reduceEqDiff,Nat.reduceLT,↓reduceIte,reduceCtorEq,sS,hix]
    refine a6 (by rw[hC];exact hf.flat rfl rfl) ?_
    simp (disch:=first|exact f6|(simp only[i6]<;>omega)) only[WA,Nat.reduceEqDiff,Nat.reduceLT,↓reduceIte,reduceCtorEq,K9]
    all_goals try (exfalso;omega)
    refine a6 (by rw[hC];exact hcp.flat rfl rfl) ?_
    simp (disch:=first|exact f6|fail) only[WA,Nat.reduceEqDiff,Nat.reduceLT,↓reduceIte,reduceCtorEq,Option.isSome_some,Option.getD_some]
    refine k9 (by rw[hC];exact hpc) rfl rfl (fun _=>rfl) ?_
    simp (disch:=first|omega|exact f6|(simp only[i6]<;>omega)) only[WA,l6,p8,Nat.reduceEqDiff,Nat.reduceLT,Nat.reduceAdd,↓reduceIte,reduceCtorEq,List.replicate,FZ,dl1]
    refine L5 (by rw[hC];exact hrw.flat rfl rfl) ?_
    simp (disch:=first|omega|exact f6|fail) only[WA,l6,p8,Nat.reduceEqDiff,Nat.reduceLT,↓reduceIte,reduceCtorEq,h1]
    exact hg _ _
theorem bU9 (s:List UInt8) (hs:s.length≤100000):k8 (EN w (n+10)) 22 [m6 s] (tW (T6 s)) ⟨[],0,0⟩:=by
 have hm:=IY w (n+2) s [114,111,119,32,35,32,40] hs (by decide)
 rw[show n9 35 ([114,111,119,32,35,32,40]:List UInt8)= [JQ,yM] from by decide+kernel] at hm
 have hlen:=fun m r (h:C0 [JQ,yM] s=some (m,r))=>nG (f:= [JQ,yM]) (by simp) h
 rw[← bH8]
 have hok:bM [] (tW (BS s)):=by
  rcases BS s with _|⟨a,b,c⟩
  ·exact lG
  ·exact lG
 have hun:BS s=match C0 [JQ,yM] s with
  |none=>none
  |some (m,r)=>match J4 [46] r with
   |none=>none
   |some c=>match lR false (m.headD 0) c s with
    |some x=>some x
    |none=>lR true (m.headD 0) c s:=rfl
 generalize BS s=R at*
 cases hM:C0 [JQ,yM] s with
 |none=>
  rw[hM] at hm hun
  have hcs:=wE w (n+6) [] [46] (by decide)
  rw[show J4 [46] ([]:List UInt8)=none from rfl] at hcs
  unfold jF at hm
  simp only at hun
  subst hun
  refine A2 rfl rfl (fun _ _=>rfl) (Nat.le_of_ble_eq_true rfl) (d7 w) hok rfl fun C hC h0=>?_
  simp (disch:=first|exact f6|fail) only[WA,Nat.reduceEqDiff,Nat.reduceLT,↓reduceIte,reduceCtorEq,List.replicate,c22]
  refine k9 (by rw[hC];exact hm) rfl rfl (fun _=>rfl) ?_
  simp (disch:=first|exact f6|fail) only[WA,Nat.reduceEqDiff,Nat.reduceLT,↓reduceIte,reduceCtorEq]
  refine a6 (by rw[hC];exact hcs.flat rfl rfl) ?_
  simp (disch:=first|omega|exact f6|(simp only[i6]<;>omega)) only[WA,Nat.reduceEqDiff,Nat.reduceLT,↓reduceIte,reduceCtorEq,Option.isSome_none,Option.getD_none]
  exact dB h0 rfl
 |some mr=>
  obtain ⟨m,r⟩:=mr
  have hl:=hlen m r hM
  rw[hM] at hm hun
  unfold jF at hm
  simp only at hun
  clear hlen hM
  obtain ⟨v,rfl⟩:∃ v,m= [v]:=by
   cases m with
   |nil=>simp at hl
   |cons a q=>cases q with
    |nil=>exact ⟨a,rfl⟩
    |cons b c=>simp at hl
  have hcs:=wE w (n+6) r [46] (by omega)
  cases hc:J4 [46] r with
  |none=>
   rw[hc] at hcs hun
   simp only at hun
   subst hun
   refine A2 rfl rfl (fun _ _=>rfl) (Nat.le_of_ble_eq_true rfl) (d7 w) hok rfl fun C hC h0=>?_
   simp (disch:=first|exact f6|fail) only[WA,Nat.reduceEqDiff,Nat.reduceLT,↓reduceIte,reduceCtorEq,List.replicate,c22]
   refine k9 (by rw[hC];exact hm) rfl rfl (fun _=>rfl) ?_
   simp (disch:=first|exact f6|fail) only[WA,Nat.reduceEqDiff,Nat.reduceLT,↓reduceIte,reduceCtorEq]
   refine a6 (by rw[hC];exact hcs.flat rfl rfl) ?_
   simp (disch:=first|omega|exact f6|(simp only[i6]<;>omega)) only[WA,Nat.reduceEqDiff,Nat.reduceLT,↓reduceIte,reduceCtorEq,Option.isSome_none,Option.getD_none]
   exact dB h0 rfl
  |some c=>
   have hcl:c.length≤r.length:=by
    have:=qS hc
    rw[this.2,List.length_take]
    omega
   rw[hc] at hcs hun
   simp only[List.headD_cons] at hun
   refine A2 rfl rfl (fun _ _=>rfl) (Nat.le_of_ble_eq_true rfl) (d7 w) hok rfl fun C hC h0=>?_
   have hrn:C.E.rounds=A4:=by rw[hC,j5]
   simp (disch:=first|exact f6|fail) only[WA,Nat.reduceEqDiff,Nat.reduceLT,↓reduceIte,reduceCtorEq,List.replicate,c22]
   refine k9 (by rw[hC];exact hm) rfl rfl (fun _=>rfl) ?_
   simp (disch:=first|exact f6|fail) only[WA,Nat.reduceEqDiff,Nat.reduceLT,↓reduceIte,reduceCtorEq]
   refine a6 (by rw[hC];exact hcs.flat rfl rfl) ?_
   simp (disch:=first|exact f6|(simp only[i6]<;>omega)) only[WA,Nat.reduceEqDiff,Nat.reduceLT,↓reduceIte,reduceCtorEq,Option.isSome_some,Option.getD_some,List.map_cons,List.map_nil,List.length_cons,List.length_nil]
   have hround:=fun b j hj P=>UY w n hC s c hs (by omega) v b j hj (P:=P)
   refine s8 (fun m fr st=>∃ j:Int,(j=0∧m=2∨j=1∧m=1∧lR false v c s=none∨j=2∧m=0∧lR false v c s=none∧lR true v c s=none)∧fr= [(0,m6 s),(2,.ptr 0 0),(5,.sl 3 1 [iD v]),(8,m6 c),(37,.agg [.sc (.bool false),.sc (.bool true)]),(38,.sc (.int .i64 j))]∧st=⟨[(0,tY)],1,0⟩) 2 ?_ ⟨_,_,.refl _ _,0,.inl ⟨rfl,rfl⟩,rfl,rfl⟩ ?_
   ·rw[hrn];unfold A4;omega
   rintro m fr st ⟨j,hj,rfl,rfl⟩
   rcases hj with ⟨rfl,rfl⟩|⟨rfl,rfl,h1⟩|⟨rfl,rfl,h1,h2⟩
   ·refine hround false 0 (.inl ⟨rfl,rfl⟩) _ (fun hn st hst=>?_) (fun fr st L hc e2 e3 e4 e5 e6=>?_)
    ·rcases hst with rfl|⟨x,y,rfl⟩
     all_goals
      repeat' (first|(simp (disch:=fail) only[WA,Int.reduceAdd]))
      exact ⟨1,_,_,by omega,p9 [(0,0)] 1 h0 rfl rfl rfl rfl,1,.inr (.inl ⟨rfl,rfl,hn⟩),rfl,rfl⟩
    ·rw[hc] at hun
     simp only at hun
     subst hun
     simp (disch:=fail) only[WA,e2,e3,e4,e5]
     exact p9 [] 0 h0 e6 rfl rfl rfl
   ·refine hround true 1 (.inr ⟨rfl,rfl⟩) _ (fun hn st hst=>?_) (fun fr st L hc e2 e3 e4 e5 e6=>?_)
    ·rcases hst with rfl|⟨x,y,rfl⟩
     all_goals
      repeat' (first|(simp (disch:=fail) only[WA,Int.reduceAdd]))
      exact ⟨0,_,_,by omega,p9 [(0,0)] 1 h0 rfl rfl rfl rfl,2,.inr (.inr ⟨rfl,rfl,h1,hn⟩),rfl,rfl⟩
    ·rw[h1,hc] at hun
     simp only at hun
     subst hun
     simp (disch:=fail) only[WA,e2,e3,e4,e5]
     exact p9 [] 0 h0 e6 rfl rfl rfl
   ·rw[h1,h2] at hun
    simp only at hun
    subst hun
    simp (disch:=first|omega|exact f6|(simp only[i6]<;>omega)) only[WA,Nat.reduceEqDiff,Nat.reduceLT,Int.reduceLT,↓reduceIte,reduceCtorEq,sS]
    exact dB h0 rfl
end
theorem aE6 (b:Bool) {z:Int} (h0:0≤z) (h1:z≤9999):(y8 b z).length≤20:=by
 have hil:=C5 (z:=z) h0 h1
 have:=kN b
 have e:=congrArg List.length (oU b z [])
 simp only[List.append_nil,List.length_append,List.length_cons,List.length_nil] at e
 omega
section
variable (w:World) (n:Nat)
theorem QH {C:D0} (hC:C.E=EN w (n+6)) (s:List UInt8) (hs:s.length≤100000) (v:Int) (hv0:1≤v) (hv1:v≤100) (b:Bool) (j:Int) (hj:(j=0∧b=false)∨(j=1∧b=true)) {P:B5}
  (hgo:pX b v s=none→P .normal [(0,m6 s),(2,.ptr 0 0),(5,.sc (.int .i64 v)),(6,.sc (.int .i64 (j+1)))] ⟨[(0,tY)],1,0⟩)
  (hret:∀ fr st L,pX b v s=some (b,L,v)→f7 fr 2=some (.ptr 0 0)→f7 fr 3=some (.sc (.int .i64 v))→f7 fr 4=some (.sc (.int .i64 0))→f7 st.own 0=some (bI3 (.sc (.bool b)) (.sl 3 L.length (A5 L)))→st.ro=0→P .ret fr st):
  gC C sT [] [(0,m6 s),(2,.ptr 0 0),(5,.sc (.int .i64 v)),(6,.sc (.int .i64 j))] ⟨[(0,tY)],1,0⟩ P:=by
 have hjb:0≤j∧j≤1:=by omega
 have hjd:decide (j=1)=b:=by rcases hj with ⟨rfl,rfl⟩|⟨rfl,rfl⟩<;>rfl
 have hsz:=n4 s
 have hh:=aR3 w (n+4) b v (by omega) (by omega)
 have hhl:=aE6 b (z:=v) (by omega) (by omega)
 have hst:=aZ1 w (n+5) s (y8 b v) (by omega)
 have hsz2:=n4 (y8 b v)
 unfold pX at hgo hret
 cases hc:(s5 (y8 b v) s).isSome with
 |false=>
  rw[hc] at hst hgo
  have hg:=hgo (by rw[if_neg];rintro ⟨h,_⟩;cases h)
  clear hgo hret
  generalize y8 b v=H at*
  subst hjd
  simp (disch:=first|omega|exact f6|fail) only[WA,Nat.reduceEqDiff,Nat.reduceLT,↓reduceIte,reduceCtorEq,sT]
  refine a6 (by rw[hC];exact hh.flat rfl rfl) ?_
  repeat' (first|(simp (disch:=fail) only[WA,l6,p8,Nat.reduceEqDiff,Nat.reduceLT,Nat.reduceAdd,Nat.reduceBEq,Int.reduceAdd,Int.reduceSub,Int.reduceLT,Int.reduceLE,Int.reduceEq,Int.reduceNeg,↓reduceIte,reduceCtorEq,List.replicate])|apply s7|((first|apply D5|apply y9|apply z6|apply D6|apply D4|apply z7)<;>intro _))
  refine a6 (by rw[hC];exact hst.flat rfl rfl) ?_
  simp (disch:=first|omega|exact f6|fail) only[WA,Nat.reduceEqDiff,Nat.reduceLT,↓reduceIte,reduceCtorEq]
  exact hg
 |true=>
  have hle:(y8 b v).length≤s.length:=by
   cases e:s5 (y8 b v) s with
   |none=>rw[e] at hc;cases hc
   |some t=>exact (W6 e).1
  rw[hc] at hst hgo hret
  by_cases h1:s.length=(y8 b v).length
  ·have hg:=hgo (by rw[if_neg];rintro ⟨_,h,_⟩;exact h h1)
   clear hgo hret hc
   generalize y8 b v=H at*
   subst hjd
   simp (disch:=first|omega|exact f6|fail) only[WA,Nat.reduceEqDiff,Nat.reduceLT,↓reduceIte,reduceCtorEq,sT]
   refine a6 (by rw[hC];exact hh.flat rfl rfl) ?_
   repeat' (first|(simp (disch:=fail) only[WA,l6,p8,Nat.reduceEqDiff,Nat.reduceLT,Nat.reduceAdd,Nat.reduceBEq,Int.reduceAdd,Int.reduceSub,Int.reduceLT,Int.reduceLE,Int.reduceEq,Int.reduceNeg,↓reduceIte,reduceCtorEq,List.replicate])|apply s7|((first|apply D5|apply y9|apply z6|apply D6|apply D4|apply z7)<;>intro _))
   refine a6 (by rw[hC];exact hst.flat rfl rfl) ?_
   simp (disch:=first|omega|exact f6|fail) only[WA,Nat.reduceEqDiff,Nat.reduceLT,↓reduceIte,reduceCtorEq,hsz,hsz2]
   all_goals try (exfalso;omega)
   exact hg
  ·have hix:=U8 s .i64 ((s.length:Int) - 1) (by omega) (by omega)
   rw[show ((s.length:Int) - 1).toNat=s.length - 1 by omega] at hix
   by_cases h2:s[s.length - 1]! =46
   ·have hsl:=sC s .i64 .i64 ((y8 b v).length:Int) ((s.length:Int) - 1) (by omega) (by omega) (by omega)
    rw[show ((s.length:Int) - 1).toNat=s.length - 1 by omega,Int.toNat_natCast,← List.drop_take] at hsl
    have hp:=aH4 w n ((s.take (s.length - 1)).drop (y8 b v).length) (by rw[List.length_drop,List.length_take];omega)
    rw[h2,show (((46:UInt8).toNat:Nat):Int)=46 from rfl] at hix
    clear hc
    generalize (s.take (s.length - 1)).drop (y8 b v).length=T at*
    generalize hQ:I3 T=q at*
    obtain ⟨L,e⟩:=q
    simp only at hp hgo hret
    generalize y8 b v=H at*
    subst hjd
    by_cases he:e=0
    ·have hr:=fun fr st=>hret fr st L (by rw[if_pos];exact ⟨by trivial,h1,h2,he⟩)
     subst he
     clear hgo hret
     simp (disch:=first|omega|exact f6|fail) only[WA,Nat.reduceEqDiff,Nat.reduceLT,↓reduceIte,reduceCtorEq,sT]
     refine a6 (by rw[hC];exact hh.flat rfl rfl) ?_
     repeat' (first|(simp (disch:=fail) only[WA,l6,p8,Nat.reduceEqDiff,Nat.reduceLT,Nat.reduceAdd,Nat.reduceBEq,Int.reduceAdd,Int.reduceSub,Int.reduceLT,Int.reduceLE,Int.reduceEq,Int.reduceNeg,↓reduceIte,reduceCtorEq,List.replicate])|apply s7|((first|apply D5|apply y9|apply z6|apply D6|apply D4|apply z7)<;>intro _))
     refine a6 (by rw[hC];exact hst.flat rfl rfl) ?_
     simp (disch:=first|omega|exact f6|fail) only[WA,Nat.reduceEqDiff,Nat.reduceLT,↓reduceIte,reduceCtorEq,hsz,hsz2,hix,hsl]
     all_goals try (exfalso;omega)
     refine k9 (by rw[hC];exact hp) rfl rfl (fun _=>rfl) ?_
     simp (disch:=first|exact f6|(simp only[i6]<;>omega)) only[WA,Nat.reduceEqDiff,Nat.reduceLT,↓reduceIte,reduceCtorEq,GG,mU,WZ]
     exact hr _ _ rfl rfl rfl rfl rfl
    ·have hg:=hgo (by rw[if_neg];exact fun h=>he h.2.2.2)
     clear hgo hret
     simp (disch:=first|omega|exact f6|fail) only[WA,Nat.reduceEqDiff,Nat.reduceLT,↓reduceIte,reduceCtorEq,sT]
     refine a6 (by rw[hC];exact hh.flat rfl rfl) ?_
     repeat' (first|(simp (disch:=fail) only[WA,l6,p8,Nat.reduceEqDiff,Nat.reduceLT,Nat.reduceAdd,Nat.reduceBEq,Int.reduceAdd,Int.reduceSub,Int.reduceLT,Int.reduceLE,Int.reduceEq,Int.reduceNeg,↓reduceIte,reduceCtorEq,List.replicate])|apply s7|((first|apply D5|apply y9|apply z6|apply D6|apply D4|apply z7)<;>intro _))
     refine a6 (by rw[hC];exact hst.flat rfl rfl) ?_
     simp (disch:=first|omega|exact f6|fail) only[WA,Nat.reduceEqDiff,Nat.reduceLT,↓reduceIte,reduceCtorEq,hsz,hsz2,hix,hsl]
     all_goals try (exfalso;omega)
     refine k9 (by rw[hC];exact hp) rfl rfl (fun _=>rfl) ?_
     simp (disch:=first|omega|exact f6|fail) only[WA,Nat.reduceEqDiff,Nat.reduceLT,↓reduceIte,reduceCtorEq,he]
     exact hg
   ·have hg:=hgo (by rw[if_neg];rintro ⟨_,_,h,_⟩;exact h2 h)
    have hx:¬ ((s[s.length - 1]!.toNat:Nat):Int)=46:=fun h=>h2 (UInt8.toNat_inj.1 (show s[s.length - 1]!.toNat=46 by omega))
    clear hgo hret hc
    generalize s[s.length - 1]!.toNat=B at*
    generalize y8 b v=H at*
    subst hjd
    simp (disch:=first|omega|exact f6|fail) only[WA,Nat.reduceEqDiff,Nat.reduceLT,↓reduceIte,reduceCtorEq,sT]
    refine a6 (by rw[hC];exact hh.flat rfl rfl) ?_
    repeat' (first|(simp (disch:=fail) only[WA,l6,p8,Nat.reduceEqDiff,Nat.reduceLT,Nat.reduceAdd,Nat.reduceBEq,Int.reduceAdd,Int.reduceSub,Int.reduceLT,Int.reduceLE,Int.reduceEq,Int.reduceNeg,↓reduceIte,reduceCtorEq,List.replicate])|apply s7|((first|apply D5|apply y9|apply z6|apply D6|apply D4|apply z7)<;>intro _))
    refine a6 (by rw[hC];exact hst.flat rfl rfl) ?_
    simp (disch:=first|omega|exact f6|(simp only[i6]<;>omega)) only[WA,Nat.reduceEqDiff,Nat.reduceLT,↓reduceIte,reduceCtorEq,hsz,hsz2,hix,hx]
    all_goals try (exfalso;omega)
    exact hg
theorem bI6 (s:List UInt8) (hs:s.length≤100000):k8 (EN w (n+7)) 25 [m6 s] (tW (T6 s)) ⟨[],0,0⟩:=by
 have hok:bM [] (tW (T6 s)):=by
  rcases T6 s with _|⟨a,b,c⟩
  ·exact lG
  ·exact lG
 refine A2 rfl rfl (fun _ _=>rfl) (Nat.le_of_ble_eq_true rfl) (d7 w) hok rfl fun C hC h0=>?_
 have hrn:C.E.rounds=A4:=by rw[hC,j5]
 have hround:=fun v a b c j hj P=>QH w n hC s hs v a b c j hj (P:=P)
 simp (disch:=first|exact f6|fail) only[WA,Nat.reduceEqDiff,Nat.reduceLT,↓reduceIte,reduceCtorEq,List.replicate,c25]
 refine s8 (fun m fr st=>∃ v:Nat,m=101 - v∧1≤v∧v≤101∧(∀ u:Int,1≤u→u<v→pX false u s=none∧pX true u s=none)∧fr= [(0,m6 s),(2,.ptr 0 0),(5,.sc (.int .i64 v))]∧st=⟨[(0,tY)],1,0⟩) 100 ?_ ⟨_,_,.refl _ _,1,rfl,Nat.le_refl _,by decide,fun u h1 h2=>absurd h2 (by omega),rfl,rfl⟩ ?_
 ·rw[hrn];unfold A4;omega
 rintro m fr st ⟨v,rfl,hv0,hv1,hno,rfl,rfl⟩
 by_cases hlt:v≤100
 ·simp (disch:=first|omega|exact f6|fail) only[WA,Nat.reduceEqDiff,Nat.reduceLT,↓reduceIte,reduceCtorEq,aL5]
  all_goals try (exfalso;omega)
  refine s8 (fun m fr st=>∃ j:Int,(j=0∧m=2∨j=1∧m=1∧pX false v s=none∨j=2∧m=0∧pX false v s=none∧pX true v s=none)∧fr= [(0,m6 s),(2,.ptr 0 0),(5,.sc (.int .i64 v)),(6,.sc (.int .i64 j))]∧st=⟨[(0,tY)],1,0⟩) 2 ?_ ⟨_,_,.refl _ _,0,.inl ⟨rfl,rfl⟩,rfl,rfl⟩ ?_
  ·rw[hrn];unfold A4;omega
  rintro m fr st ⟨j,hj,rfl,rfl⟩
  rcases hj with ⟨rfl,rfl⟩|⟨rfl,rfl,h1⟩|⟨rfl,rfl,h1,h2⟩
  ·refine hround v (by omega) (by omega) false 0 (.inl ⟨rfl,rfl⟩) _ (fun hn=>?_) (fun fr st L hc e2 e3 e4 e5 e6=>?_)
   ·simp (disch:=fail) only[WA,Int.reduceAdd]
    exact ⟨1,_,_,by omega,.refl _ _,1,.inr (.inl ⟨rfl,rfl,hn⟩),rfl,rfl⟩
   ·rw[FE (by omega) (by omega) hc]
    simp (disch:=fail) only[WA,e2,e3,e4,e5]
    exact p9 [] 0 h0 e6 rfl rfl rfl
  ·refine hround v (by omega) (by omega) true 1 (.inr ⟨rfl,rfl⟩) _ (fun hn=>?_) (fun fr st L hc e2 e3 e4 e5 e6=>?_)
   ·simp (disch:=fail) only[WA,Int.reduceAdd]
    exact ⟨0,_,_,by omega,.refl _ _,2,.inr (.inr ⟨rfl,rfl,h1,hn⟩),rfl,rfl⟩
   ·rw[FE (by omega) (by omega) hc]
    simp (disch:=fail) only[WA,e2,e3,e4,e5]
    exact p9 [] 0 h0 e6 rfl rfl rfl
  ·simp (disch:=first|omega|exact f6|fail) only[WA,Nat.reduceEqDiff,Nat.reduceLT,Int.reduceLT,↓reduceIte,reduceCtorEq,sT]
   all_goals try (exfalso;omega)
   refine ⟨101 - (v+1),_,_,by omega,.refl _ _,v+1,rfl,by omega,by omega,fun u a b=>?_,by rfl,rfl⟩
   rcases (by omega:u<v∨u=v) with h|rfl
   ·exact hno u a h
   ·exact ⟨h1,h2⟩
 ·obtain rfl:v=101:=by omega
  rw[aX8 fun u a b=>hno u a (by omega)]
  simp (disch:=first|omega|exact f6|(simp only[i6]<;>omega)) only[WA,Nat.reduceEqDiff,Nat.reduceLT,↓reduceIte,reduceCtorEq,aL5]
  all_goals try (exfalso;omega)
  exact dB h0 rfl
end
set_option maxHeartbeats 1000000
section
variable (w:World) (n:Nat)
def ZV (b:Nat) (p:V):Prop:=p= .sc (.pointer none)∨p= .ptr b 0
theorem LY {C:D0} {st:l9} {Q:V→l9→Prop} (hC:C.E=EN w (n+2)) (b e:Nat) (p g:V) (hb:f7 st.own b=some (.box 46 e [p,g])) (hp:ZV b p) (hro:st.ro≤b)
  (hq:Q (.tup []) ⟨A9 st.own b (.box 46 e [.ptr b 0,g]),st.next,st.ro⟩):W3 C 29 [.ptr b 0] st Q:=by
 refine HQ hC rfl rfl (fun _ _=>rfl) (Nat.le_of_ble_eq_true rfl) hq fun C' hC' hn=>?_
 obtain ⟨H,nx,ro⟩:=st
 have h2:(2:Nat)≤ [p,g].length:=Nat.le_refl _
 rcases hp with rfl|rfl
 ·simp (disch:=first|omega|exact f6|fail) only[WA,Nat.reduceEqDiff,Nat.reduceLT,↓reduceIte,reduceCtorEq,c29,hb,mY,wK]
  refine TF hC' (fun x s=>?_) ?_
  ·show PR w _ [x] s=some (x,[])
   rfl
  simp (disch:=first|omega|exact f6|fail) only[WA,Nat.reduceEqDiff,Nat.reduceLT,↓reduceIte,reduceCtorEq,hb,mY]
  exact .refl _ _
 ·have hs:A9 H b (.box 46 e [.ptr b 0,g])=H:=CF _ _ _ hb
  simp (disch:=first|omega|exact f6|fail) only[WA,Nat.reduceEqDiff,Nat.reduceLT,↓reduceIte,reduceCtorEq,c29,hb,MP,mY,wK]
  rw[hs]
  exact .refl _ _
theorem BX {C:D0} {st:l9} {Q:V→l9→Prop} (hC:C.E=EN w (n+3)) (b r:Nat) (p:V) (acc s:ByteArray) (hb:f7 st.own b=some (.box 46 1 [p,.gr 2 r acc.size])) (hr:f7 st.own r=some (.gro 5 1 false (eG acc))) (hp:ZV b p) (hro:st.ro≤b) (hro2:st.ro≤r) (hrb:r ≠ b) (hlt:b ≠ st.next)
  (hsz:acc.size+s.size≤1099511627776) (hq:Q (.tup [.sc (.int .i64 s.size),.sc .nilIface]) ⟨(st.next,.gro 5 1 false (eG (acc++s)))::A9 (I2 r st.own) b (.box 46 1 [.ptr b 0,.gr 2 st.next (acc.size+s.size)]),st.next+1,st.ro⟩):
  W3 C 13 [.ptr b 0,.sc (.string s)] st Q:=by
 refine HQ hC rfl rfl (fun _ _=>rfl) (Nat.le_of_ble_eq_true rfl) hq fun C' hC' hn=>?_
 obtain ⟨H,nx,ro⟩:=st
 have h1:=AA acc
 have h2:=bK1 s
 have a1:f7 (A9 H b (.box 46 1 [.ptr b 0,.gr 2 r acc.size])) b=some (.box 46 1 [.ptr b 0,.gr 2 r acc.size]):=eQ hb
 have a2:f7 (A9 H b (.box 46 1 [.ptr b 0,.gr 2 r acc.size])) r=some (.gro 5 1 false (eG acc)):=by rw[O7 _ _ _ _ _ hb,if_neg hrb];exact hr
 have hbr:¬ b=r:=fun e=>hrb e.symm
 have a3:f7 (I2 r (A9 H b (.box 46 1 [.ptr b 0,.gr 2 r acc.size]))) b=some (.box 46 1 [.ptr b 0,.gr 2 r acc.size]):=by rw[H0,if_neg hbr];exact a1
 simp (disch:=first|exact f6|fail) only[WA,Nat.reduceEqDiff,Nat.reduceLT,↓reduceIte,reduceCtorEq,c13]
 refine LY w n hC' b 1 p _ hb hp hro ?_
 simp (disch:=first|omega|exact f6|(simp only[i6]<;>omega)) only[WA,Nat.reduceEqDiff,Nat.reduceLT,↓reduceIte,reduceCtorEq,a1,a2,a3,sF,bK0,hbr,hlt,RB,fJ]
 rw[qM _ _ _ _ hrb,kJ]
 exact .refl _ _
theorem aZ3 {C:D0} {st:l9} {Q:V→l9→Prop} (hC:C.E=EN w (n+1)) (b r:Nat) (p:V) (acc:ByteArray) (hb:f7 st.own b=some (.box 46 1 [p,.gr 2 r acc.size])) (hr:f7 st.own r=some (.gro 5 1 false (eG acc))) (hro:st.ro≤b) (hro2:st.ro≤r)
  (hsz:acc.size≤1099511627776) (hq:∀ st',st'.ro=st.ro→Q (.sc (.string acc)) st'):W3 C 17 [.ptr b 0] st Q:=by
 obtain ⟨H,nx,ro⟩:=st
 by_cases h0:acc.size=0
 ·rw[h0] at hb
  have hs:acc=ByteArray.empty:=by
   apply ByteArray.ext;apply Array.ext'
   rw[List.eq_nil_of_length_eq_zero (show acc.data.toList.length=0 by simpa using h0)]
   rfl
  refine aM5 (st':=⟨A9 H b (.box 46 1 [p,.sc (.slice none 0 0)]),nx,ro⟩) hC rfl rfl (fun _ _=>rfl) (Nat.le_of_ble_eq_true rfl) (hq ⟨A9 H b (.box 46 1 [p,.sc (.slice none 0 0)]),nx,ro⟩ rfl) (fun C' hn=>?_) fun C' hC' hn=>?_
  ·exact GV (C:=C') (st:=⟨H,nx,ro⟩) (k:=1) hb rfl aY4
  have a1:f7 (A9 H b (.box 46 1 [p,.sc (.slice none 0 0)])) b=some (.box 46 1 [p,.sc (.slice none 0 0)]):=eQ hb
  rw[hs]
  simp (disch:=first|exact f6|fail) only[WA,l6,p8,Nat.reduceEqDiff,Nat.reduceLT,↓reduceIte,reduceCtorEq,c17,a1,aJ6]
  exact .refl _ _
 ·refine HQ hC rfl rfl (fun _ _=>rfl) (Nat.le_of_ble_eq_true rfl) (hq ⟨I2 r H,nx,ro⟩ rfl) fun C' hC' hn=>?_
  have hv:=aJ5 ⟨H,nx,ro⟩ 5 1 r acc hr hro2 (by omega) hsz
  simp (disch:=first|omega|exact f6|fail) only[WA,l6,p8,Nat.reduceEqDiff,Nat.reduceLT,↓reduceIte,reduceCtorEq,c17,hb,h0,hv]
  exact .refl _ _
theorem bC2 {C:D0} {st:l9} {Q:V→l9→Prop} (hC:C.E=EN w (n+3)) (b r:Nat) (p:V) (l x:List UInt8) (hb:f7 st.own b=some (.box 46 1 [p,.gr 2 r l.length])) (hr:f7 st.own r=some (.gro 5 1 false (eG ⟨l.toArray⟩))) (hp:ZV b p) (hro:st.ro≤b) (hro2:st.ro≤r) (hrb:r ≠ b) (hlt:b ≠ st.next)
  (hsz:l.length+x.length≤1099511627776) (hq:Q (.tup [.sc (.int .i64 x.length),.sc .nilIface]) ⟨(st.next,.gro 5 1 false (eG ⟨(l++x).toArray⟩))::A9 (I2 r st.own) b (.box 46 1 [.ptr b 0,.gr 2 st.next (l.length+x.length)]),st.next+1,st.ro⟩):
  W3 C 13 [.ptr b 0,m6 x] st Q:=by
 have h1:=n4 l
 have h2:=n4 x
 have h3:(ByteArray.mk l.toArray)++(ByteArray.mk x.toArray)=⟨(l++x).toArray⟩:=by
  apply ByteArray.ext;apply Array.ext'
  rw[ByteArray.data_append,Array.toList_append]
 refine BX w n hC b r p ⟨l.toArray⟩ ⟨x.toArray⟩ (by rw[h1];exact hb) hr hp hro hro2 hrb hlt (by rw[h1,h2];exact hsz) ?_
 rw[h1,h2,h3]
 exact hq
theorem bR1 (st:l9) (b e r m:Nat) (p:V) (hb:f7 st.own b=some (.box 46 e [p,.gr 2 r m])) (hm:m≤1000000):H1 (EN w (n+1)) 16 st [.ptr b 0] (.sc (.int .i64 m)):=by
 refine bB8 rfl rfl (fun _ _=>rfl) (Nat.le_of_ble_eq_true rfl) rfl fun C hC h0=>⟨⟨st.own,st.next,st.next⟩,?_⟩
 simp (disch:=first|exact f6|fail) only[WA,Nat.reduceEqDiff,Nat.reduceLT,↓reduceIte,reduceCtorEq,c16,hb]
 exact .refl _ _
end
set_option maxHeartbeats 400000
def JP (k:Nat) (r:Bool × List p7):List D:= [.sc (.bool r.1),.sl k r.2.length (A5 r.2)]
def J6 (k:Nat) (R:List (Bool × List p7)):List D:=R.flatMap (JP k)
theorem P1 (k:Nat) (R:List (Bool × List p7)):(J6 k R).length=R.length*2:=by
 induction R with
 |nil=>rfl
 |cons r R ih=>
  have e:J6 k (r::R)=JP k r++J6 k R:=by simp[J6]
  rw[e,List.length_append,ih]
  simp only[JP,List.length_cons,List.length_nil]
  omega
theorem rX (k:Nat) (R:List (Bool × List p7)) (j:Nat) (hj:j<R.length):C8 (J6 k R) (j*2) (some 2)=some (.agg [.sc (.bool R[j]!.1),.sl k R[j]!.2.length (A5 R[j]!.2)]):=wH (JP k) 2 R (fun _=>rfl) (by decide) j hj
abbrev G5 (s k:Nat) (c:kC):V:= .agg [.sc (.int .i64 c.1),.sl s c.2.length (J6 k c.2)]
def uK (R:List (Bool × List p7)):Prop:=∀ r ∈ R,SU r.2∧r.2.length≤140737488351232
def Q0 (acc:List UInt8) (n:Int) (R:List (Bool × List p7)):List UInt8 × Int:=if (B2 n R).2=0 then (acc++(B2 n R).1,0) else ([],(B2 n R).2)
theorem xN (acc:List UInt8) (n:Int):Q0 acc n []=(acc,0):=by simp[Q0,B2]
theorem tM (acc:List UInt8) (n:Int) (r:Bool × List p7) (R:List (Bool × List p7)) (h:(B7 r.1 r.2 n).2=0):Q0 acc n (r::R)=Q0 (acc++((B7 r.1 r.2 n).1++ [10])) (n+1) R:=by
 unfold Q0
 rw[B2,if_pos h]
 by_cases h2:(B2 (n+1) R).2=0
 ·simp only[if_pos h2,if_true,List.append_assoc,List.cons_append,List.nil_append]
 ·simp only[if_neg h2]
theorem xM (acc:List UInt8) (n:Int) (r:Bool × List p7) (R:List (Bool × List p7)) (h:(B7 r.1 r.2 n).2 ≠ 0):Q0 acc n (r::R)=([],(B7 r.1 r.2 n).2):=by
 unfold Q0
 rw[B2,if_neg h]
 simp only[if_neg h]
theorem LW (c:kC):q8 c=if M4 c=0 then (if (Q0 (F5 c.1++ [10]) 1 c.2).2=0 then (if 60000<(Q0 (F5 c.1++ [10]) 1 c.2).1.length then ([],4) else Q0 (F5 c.1++ [10]) 1 c.2) else Q0 (F5 c.1++ [10]) 1 c.2) else ([],M4 c):=by
 unfold q8 Q0
 by_cases h1:M4 c=0
 ·simp only[if_pos h1]
  by_cases h2:(B2 1 c.2).2=0
  ·simp only[if_pos h2,if_true,List.append_assoc,List.cons_append,List.nil_append]
  ·simp only[if_neg h2]
 ·simp only[if_neg h1]
theorem FS (z:Int):F5 z++ [10]= [115,116,97,114,116,32,119,105,116,104,32]++(Lib.itoa z++ [32,115,116,105,116,99,104,101,115,46,10]):=by simp[F5]
section
variable (w:World) (n:Nat)
theorem bN9 (s k:Nat) (c:kC) (hL:c.2.length≤140737488351232) (hK:uK c.2):k8 (EN w (n+7)) 9 [G5 s k c] (.sc (.int .i64 (M4 c))) ⟨[],0,0⟩:=by
 obtain ⟨z,R⟩:=c
 simp only at hL hK
 have hil:=P1 k R
 unfold M4
 simp only
 by_cases h1:100<R.length
 ·rw[if_pos h1]
  refine b8 rfl rfl (fun _ _=>rfl) (Nat.le_of_ble_eq_true rfl) (d7 w) rfl fun C hC h0=>?_
  simp (disch:=first|omega|exact f6|fail) only[WA,Nat.reduceEqDiff,Nat.reduceLT,↓reduceIte,reduceCtorEq,c9]
  all_goals try (exfalso;omega)
  exact b7 rfl h0 rfl
 rw[if_neg h1]
 by_cases h2:z<0∨200<z
 ·rw[if_pos h2]
  refine b8 rfl rfl (fun _ _=>rfl) (Nat.le_of_ble_eq_true rfl) (d7 w) rfl fun C hC h0=>?_
  rcases h2 with h2|h2
  all_goals
   repeat' (first|(simp (disch:=first|omega|exact f6|fail) only[WA,Nat.reduceEqDiff,Nat.reduceLT,↓reduceIte,reduceCtorEq,c9]))
   all_goals try (exfalso;omega)
   exact b7 rfl h0 rfl
 rw[if_neg h2]
 refine b8 rfl rfl (fun _ _=>rfl) (Nat.le_of_ble_eq_true rfl) (d7 w) rfl fun C hC h0=>?_
 have hrn:C.E.rounds=A4:=by rw[hC,j5]
 simp (disch:=first|omega|exact f6|fail) only[WA,Nat.reduceEqDiff,Nat.reduceLT,↓reduceIte,reduceCtorEq,c9]
 all_goals try (exfalso;omega)
 refine s8 (fun m fr st=>∃ j:Nat,m=R.length - j∧j≤R.length∧pW R=pW (R.drop j)∧fr= [(19,.sl s R.length (J6 k R)),(20,.sc (.int .i64 R.length)),(21,.sc (.int .i64 j))]∧st=⟨[],0,0⟩) R.length ?_ ⟨_,_,p9 [] 0 h0 rfl rfl rfl rfl,0,by omega,Nat.zero_le _,rfl,rfl,rfl⟩ ?_
 ·rw[hrn];unfold A4;omega
 rintro m fr st ⟨j,rfl,hj,hinv,rfl,rfl⟩
 by_cases hlt:j<R.length
 ·have hRj:R.drop j=R[j]! ::R.drop (j+1):=by rw[List.drop_eq_getElem_cons hlt,getElem!_pos R j hlt]
  have hag:=rX k R j hlt
  have hm:=hK R[j]! (by rw[getElem!_pos R j hlt];exact List.getElem_mem hlt)
  have ha:=JR w n k R[j]!.2 hm.2 hm.1
  rw[hRj,pW] at hinv
  generalize R[j]! =r at*
  obtain ⟨b,L⟩:=r
  simp only at hag ha hinv
  rw[hinv]
  by_cases h3:K3 L=0
  ·rw[if_pos h3] at hinv ⊢
   rw[h3] at ha
   simp (disch:=first|omega|exact f6|(simp only[i6]<;>omega)) only[WA,Nat.reduceEqDiff,Nat.reduceLT,↓reduceIte,List.replicate,bE3,hag]
   all_goals try (exfalso;omega)
   refine a6 (by rw[hC];exact ha.flat rfl rfl) ?_
   simp (disch:=first|omega|exact f6|fail) only[WA,Nat.reduceEqDiff,Nat.reduceLT,↓reduceIte]
   rw[← hinv]
   exact ⟨R.length - (j+1),_,_,by omega,p9 [] 0 h0 rfl rfl rfl rfl,j+1,rfl,by omega,hinv,rfl,rfl⟩
  ·rw[if_neg h3]
   generalize K3 L=e at*
   simp (disch:=first|omega|exact f6|(simp only[i6]<;>omega)) only[WA,Nat.reduceEqDiff,Nat.reduceLT,↓reduceIte,List.replicate,bE3,hag]
   all_goals try (exfalso;omega)
   refine a6 (by rw[hC];exact ha.flat rfl rfl) ?_
   simp (disch:=first|exact f6|(simp only[i6]<;>omega)) only[WA,Nat.reduceEqDiff,Nat.reduceLT,↓reduceIte,h3]
   exact b7 rfl h0 rfl
 ·have:j=R.length:=by omega
  subst this
  rw[List.drop_length] at hinv
  rw[hinv]
  simp (disch:=first|omega|exact f6|fail) only[WA,Nat.reduceEqDiff,Nat.reduceLT,↓reduceIte,bE3]
  all_goals try (exfalso;omega)
  exact b7 rfl h0 rfl
end
section
variable (w:World) (n:Nat)
theorem WU (s k:Nat) (c:kC) (hL:c.2.length≤140737488351232) (hK:uK c.2):k8 (EN w (n+9)) 5 [G5 s k c] (.tup [m6 (q8 c).1,.sc (.int .i64 (q8 c).2)]) ⟨[],0,0⟩:=by
 have hc:=bN9 w (n+1) s k c hL hK
 rw[LW]
 by_cases h1:M4 c=0
 case neg=>
  rw[if_neg h1]
  generalize M4 c=e at*
  refine b8 rfl rfl (fun _ _=>rfl) (Nat.le_of_ble_eq_true rfl) (d7 w) rfl fun C hC h0=>?_
  simp (disch:=first|exact f6|fail) only[WA,Nat.reduceEqDiff,Nat.reduceLT,↓reduceIte,reduceCtorEq,c5]
  refine a6 (by rw[hC];exact hc.flat rfl rfl) ?_
  simp (disch:=first|exact f6|(simp only[i6]<;>omega)) only[WA,Nat.reduceEqDiff,Nat.reduceLT,↓reduceIte,h1]
  exact b7 rfl h0 rfl
 obtain ⟨hc1,hc2,_⟩:=S9 h1
 rw[h1] at hc
 rw[if_pos h1]
 clear h1
 obtain ⟨z,R⟩:=c
 simp only at hL hK hc1 hc2 ⊢
 have hil:=P1 k R
 have hi:=fun st=>UE w (n+7) st z (by omega) (by omega)
 have hzl:=C5 (z:=z) (by omega) (by omega)
 have hse:=FS z
 have hsl:(F5 z++ [10]).length≤40:=by rw[hse];simp only[List.length_append,List.length_cons,List.length_nil];omega
 have nb:∀ a b:Nat,Nat.beq a b=false→a ≠ b:=fun a b=>Nat.ne_of_beq_eq_false
 generalize hJ:Q0 (F5 z++ [10]) 1 R=J at*
 generalize hS:F5 z++ [10]=S at*
 generalize Lib.itoa z=A at*
 refine b8 rfl rfl (fun _ _=>rfl) (Nat.le_of_ble_eq_true rfl) (d7 w) (by split<;>first|(split<;>rfl)|rfl) fun C hC h0=>?_
 have hrn:C.E.rounds=A4:=by rw[hC,j5]
 simp (disch:=first|exact f6|fail) only[WA,Nat.reduceEqDiff,Nat.reduceLT,↓reduceIte,reduceCtorEq,c5]
 refine a6 (by rw[hC];exact hc.flat rfl rfl) ?_
 simp (disch:=first|exact f6|fail) only[WA,Nat.reduceEqDiff,Nat.reduceLT,Nat.reduceAdd,↓reduceIte,reduceCtorEq,List.replicate]
 all_goals try (exfalso;omega)
 have hse2:(115:UInt8)::116::97::114::116::32::119::105::116::104::32::(A++ [32,115,116,105,116,99,104,101,115,46,10])=S:=hse.symm
 refine a6 (by rw[hC];exact hi _) ?_
 simp (disch:=first|exact f6|(simp only[i6]<;>omega)) only[WA,Nat.reduceEqDiff,Nat.reduceLT,↓reduceIte,K9,List.append_assoc,hse2]
 all_goals try (exfalso;omega)
 refine TG (st:=⟨[(1,.box 46 1 [.sc (.pointer none),.sc (.slice none 0 0)]),(0,.box 24 1 [.sc (.int .i64 z),.sl s R.length (J6 k R)])],2,0⟩) (fun C' hn'=>gQ (C:=C') (fr:= []) (l:= [.sc (.pointer none),.sc (.slice none 0 0)]) 1 46 1 1 5 1 rfl rfl (Nat.ne_of_beq_eq_false rfl)) ?_
 refine bC2 w (n+5) hC 1 2 (.sc (.pointer none)) [] S rfl rfl (.inl rfl) (Nat.zero_le _) (Nat.zero_le _) (by decide) (Nat.ne_of_beq_eq_false rfl) (by simp;omega) ?_
 simp (disch:=first|exact f6|fail) only[WA,Nat.reduceEqDiff,Nat.reduceLT,Nat.reduceAdd,↓reduceIte,reduceCtorEq]
 refine s8 (fun m fr st=>∃ (j:Nat) (p:V) (F:List UInt8),m=R.length - j∧j≤R.length∧ZV 0 p∧J=Q0 F ((j:Int)+1) (R.drop j)∧F.length≤40+j*2101∧fr= [(5,.ptr 0 0),(22,.sl s R.length (J6 k R)),(23,.sc (.int .i64 R.length)),(24,.sc (.int .i64 j))]∧
  st=⟨[(1,.gro 5 1 false (eG ⟨F.toArray⟩)),(0,.box 46 1 [p,.gr 2 1 F.length])],2,0⟩) R.length ?_ ⟨_,_,p9 [(3,1),(1,0)] 2 h0 rfl rfl rfl rfl,0,.ptr 0 0,S,by omega,Nat.zero_le _,.inr rfl,hJ.symm,by omega,rfl,by simp;rfl⟩ ?_
 ·rw[hrn];unfold A4;omega
 rintro m fr st ⟨j,p,F,rfl,hj,hp,hinv,hF,rfl,rfl⟩
 by_cases hlt:j<R.length
 case neg=>
  have:j=R.length:=by omega
  subst this
  rw[List.drop_length,xN] at hinv
  subst hinv
  simp only[if_true]
  have hFz:=n4 F
  have hbl:=fun (st:l9) (h:f7 st.own 0=some (.box 46 1 [p,.gr 2 1 F.length]))=>bR1 w (n+7) st 0 1 1 F.length p h (by omega)
  by_cases hb:60000<F.length
  ·rw[if_pos hb]
   simp (disch:=first|omega|exact f6|fail) only[WA,Nat.reduceEqDiff,Nat.reduceLT,↓reduceIte,aM1]
   refine a6 (by rw[hC];refine hbl _ ?_;rfl) ?_
   simp (disch:=first|omega|exact f6|fail) only[WA,Nat.reduceEqDiff,Nat.reduceLT,↓reduceIte]
   all_goals try (exfalso;omega)
   exact b7 rfl h0 rfl
  ·rw[if_neg hb]
   simp (disch:=first|omega|exact f6|fail) only[WA,Nat.reduceEqDiff,Nat.reduceLT,↓reduceIte,aM1]
   refine a6 (by rw[hC];refine hbl _ ?_;rfl) ?_
   simp (disch:=first|omega|exact f6|fail) only[WA,Nat.reduceEqDiff,Nat.reduceLT,↓reduceIte]
   all_goals try (exfalso;omega)
   refine aZ3 w (n+7) hC 0 1 p ⟨F.toArray⟩ (by rw[hFz];rfl) rfl (Nat.zero_le _) (Nat.zero_le _) (by omega) fun st' hst=>?_
   repeat' (first|(simp (disch:=fail) only[WA,l6,p8,Nat.reduceEqDiff,Nat.reduceLT,Nat.reduceAdd,Nat.reduceBEq,Int.reduceAdd,Int.reduceSub,Int.reduceLT,Int.reduceLE,Int.reduceEq,Int.reduceNeg,↓reduceIte,reduceCtorEq,List.replicate])|apply s7|((first|apply D5|apply y9|apply z6|apply D6|apply D4|apply z7)<;>intro _))
   exact b7 rfl h0 hst
 have hRj:R.drop j=R[j]! ::R.drop (j+1):=by rw[List.drop_eq_getElem_cons hlt,getElem!_pos R j hlt]
 have hag:=rX k R j hlt
 have hm:=hK R[j]! (by rw[getElem!_pos R j hlt];exact List.getElem_mem hlt)
 have hrw:=bP7 w n R[j]!.1 k R[j]!.2 ((j:Int)+1) hm.2 hm.1
 have hrl:=QG (b:=R[j]!.1) (L:=R[j]!.2) (n:=(j:Int)+1)
 rw[hRj] at hinv
 have e1:=tM F ((j:Int)+1) R[j]! (R.drop (j+1))
 have e2:=xM F ((j:Int)+1) R[j]! (R.drop (j+1))
 generalize hr:R[j]! =r at*
 obtain ⟨b,L⟩:=r
 simp only at hag hrw e1 e2 hrl
 by_cases h2:(B7 b L ((j:Int)+1)).2=0
 ·rw[e1 h2] at hinv
  rw[h2] at hrw
  generalize (B7 b L ((j:Int)+1)).1=T at*
  clear e1 e2 h2
  simp (disch:=first|omega|exact f6|(simp only[i6]<;>omega)) only[WA,Nat.reduceEqDiff,Nat.reduceLT,Nat.reduceAdd,↓reduceIte,List.replicate,aM1,hag]
  all_goals try (exfalso;omega)
  refine a6 (by rw[hC];exact hrw.flat rfl rfl) ?_
  simp (disch:=first|omega|exact f6|(simp only[i6]<;>omega)) only[WA,Nat.reduceEqDiff,Nat.reduceLT,↓reduceIte,K9]
  all_goals try (exfalso;omega)
  refine bC2 w (n+5) hC 0 1 p F (T++ [10]) rfl rfl hp (Nat.zero_le _) (Nat.zero_le _) (by decide) (nb _ _ rfl) (by simp;omega) ?_
  simp (disch:=fail) only[WA,Nat.reduceEqDiff,Nat.reduceAdd,↓reduceIte,reduceCtorEq]
  refine ⟨R.length - (j+1),_,_,by omega,p9 [(3,1),(0,0)] 2 h0 rfl rfl rfl rfl,j+1,.ptr 0 0,F++(T++ [10]),rfl,by omega,.inr rfl,?_,?_,rfl,?_⟩
  ·rw[hinv];rfl
  ·simp only[List.length_append,List.length_cons,List.length_nil];omega
  ·simp only[List.length_append];rfl
 ·rw[e2 h2] at hinv
  subst hinv
  generalize (B7 b L ((j:Int)+1)).2=e at*
  simp only[if_neg h2]
  clear e1 e2
  simp (disch:=first|omega|exact f6|(simp only[i6]<;>omega)) only[WA,Nat.reduceEqDiff,Nat.reduceLT,Nat.reduceAdd,↓reduceIte,List.replicate,aM1,hag]
  all_goals try (exfalso;omega)
  refine a6 (by rw[hC];exact hrw.flat rfl rfl) ?_
  simp (disch:=first|exact f6|(simp only[i6]<;>omega)) only[WA,Nat.reduceEqDiff,Nat.reduceLT,↓reduceIte,h2]
  exact b7 rfl h0 rfl
end
end Go.Proofs.YtimmmnanllcfoaaGreatDoor
namespace Go.Itp
set_option linter.unusedVariables false
set_option linter.unusedSimpArgs false
set_option maxRecDepth 10000
def pJ:List UInt8:= [115,116,97,114,116,32,119,105,116,104,32]
def gZ:List UInt8:= [32,115,116,105,116,99,104,101,115,46]
noncomputable def aN:Int→List (List UInt8)→List (Bool × List p7)→Option (List (Bool × List p7))
 |_,[],acc=>some acc
 |n,x::xs,acc=>match T6 x with
  |none=>none
  |some (b,L,k)=>if k=n then aN (n+1) xs (acc++ [(b,L)]) else none
noncomputable def mE (s:List UInt8):Option kC:=if 60000<s.length then none else match C0 [pJ,gZ] ((n9 10 s).headD []) with
 |none=>none
 |some (m,r)=>if r= []∧(n9 10 s).length≤102 then (match aN 1 (n9 10 s).tail.dropLast [] with
  |none=>none
  |some R=>if q8 (m.headD 0,R)=(s,0) then some (m.headD 0,R) else none) else none
theorem UW {s:List UInt8} {c:kC} (h:mE s=some c):cB s=some c:=by
 unfold mE at h
 split at h
 ·cases h
 split at h
 ·cases h
 split at h
 ·split at h
  ·cases h
  ·split at h
   ·rename_i hc
    cases h
    exact PW hc
   ·cases h
 ·cases h
theorem jP:∀ (l:List (Bool × List p7)) (n:Int) (acc:List (Bool × List p7)),(B2 n l).2=0→aN n (U9 n l) acc=some (acc++l)
 | [],n,acc,_=>by rw[U9,aN,List.append_nil]
 |r::l,n,acc,h=>by
  unfold B2 at h
  by_cases h1:(B7 r.1 r.2 n).2=0
  ·rw[if_pos h1] at h
   by_cases h2:(B2 (n+1) l).2=0
   ·have h3:B7 r.1 r.2 n=((B7 r.1 r.2 n).1,0):=by rw[← h1]
    rw[U9,aN,yV h3]
    simp only[if_true]
    rw[jP l (n+1) _ h2,List.append_assoc]
    rfl
   ·rw[if_neg h2] at h;exact absurd h h2
  ·rw[if_neg h1] at h;exact absurd h h1
theorem aU3 {s:List UInt8} {c:kC} (h:q8 c=(s,0)):mE s=some c:=by
 obtain ⟨h1,h2,h3,h4⟩:=bA (by rw[h]:(q8 c).2=0)
 obtain ⟨c1,c2,c3⟩:=S9 h1
 have hw:=aQ h
 have hlen:s.length≤60000:=by
  rw[h] at h4
  rw[show s=_ from congrArg Prod.fst h4]
  exact h3
 have hnd:R1 gZ:=fun d hd=>by
  simp only[gZ,List.head?_cons,Option.some.injEq] at hd
  subst hd;decide
 have hm:C0 [pJ,gZ] (F5 c.1)=some ([c.1],[]):=by
  have e:F5 c.1=pJ++(Lib.itoa c.1++(gZ++ [])):=by simp[F5,pJ,gZ]
  rw[e]
  unfold C0
  simp only[G0]
  unfold S6
  rw[List.append_nil,W7 (by omega) (by omega) hnd,if_neg oY,cE (by omega) (by omega) hnd]
  have:=G0 gZ []
  rw[List.append_nil] at this
  rw[this]
  simp only[S6,eJ c2.1,List.nil_append]
 unfold mE
 rw[if_neg (by omega),hw]
 simp only[List.headD_cons,hm,List.tail_cons,List.dropLast_concat]
 rw[if_pos ⟨trivial,by simp only[List.length_cons,List.length_append,List.length_nil,W9];omega⟩,jP _ _ _ h2]
 simp only[List.nil_append]
 exact if_pos h
theorem aU2 (s:List UInt8):mE s=cB s:=by
 cases h:cB s with
 |some c=>exact aU3 (nM h)
 |none=>
  cases hp:mE s with
  |none=>rfl
  |some x=>rw[UW hp] at h;cases h
end Go.Itp
namespace Go.Proofs.YtimmmnanllcfoaaGreatDoor
open Go Go.Itp
set_option maxRecDepth 100000
set_option maxHeartbeats 400000
set_option linter.unusedSimpArgs false
set_option linter.unusedVariables false
def PA:Option kC→V
 |none=> .tup [.agg [.sc (.int .i64 0),.sl 3 0 []],.sc (.int .i64 12)]
 |some c=> .tup [G5 3 3 c,.sc (.int .i64 0)]
theorem y4 {C:D0} {st:l9} {b x:Value} (h0:C.w0.nx=0) (hro:st.ro=0):M9 C [(0,.tup [.agg [.sc b,.sc (.slice none 0 0)],.sc x])] st [(0,.tup [.agg [.sc b,.sl 3 0 []],.sc x])] ⟨[],0,0⟩:=
 (M3 (t:=0) (v:= .tup [.agg [.sc b,.sc (.slice none 0 0)],.sc x]) (v':= .tup [.agg [.sc b,.sl 3 0 []],.sc x]) rfl (zJ (.cons (zI (.cons (.refl _) (.cons lJ .nil))) (.cons (.refl _) .nil)))).trans (p9 [] 0 h0 hro rfl rfl rfl)
theorem GX {C:D0} {st:l9} {b x:Value} {v:V} {s n:Nat} {l:List D} (hs:w5 st.own v=some (.sl s n l)) (hrow:E4 st.ro st.own (dJ v)=true) (hk:s ≠ 1∨n ≠ 0) (h0:C.w0.nx=0) (hro:st.ro=0):M9 C [(0,.tup [.agg [.sc b,v],.sc x])] st [(0,.tup [.agg [.sc b,.sl 3 n l],.sc x])] ⟨[],0,0⟩:=by
 have e1:dJ (.tup [.agg [.sc b,v],.sc x])=dJ v:=by simp[dJ,aS]
 have e2:w5 st.own (.tup [.agg [.sc b,v],.sc x])=some (.tup [.agg [.sc b,.sl s n l],.sc x]):=by simp[w5,J7,hs]
 refine (eM (t:=0) (v:= .tup [.agg [.sc b,v],.sc x]) rfl e2 (by rw[e1];exact hrow)).trans ?_
 refine (M3 (t:=0) (v:= .tup [.agg [.sc b,.sl s n l],.sc x]) (v':= .tup [.agg [.sc b,.sl 3 n l],.sc x]) rfl (zJ (.cons (zI (.cons (.refl _) (.cons (qB hk) .nil))) (.cons (.refl _) .nil)))).trans ?_
 exact p9 [] 0 h0 hro rfl rfl rfl
theorem fV {b x:Value} {n:Nat} {l:List D}:bM [] (.tup [.agg [.sc b,.sl 3 n l],.sc x]):=eD (by simp only[Cl,KQ,and_true];exact ⟨trivial,rfl⟩)
theorem EZ (nx t:Nat) (a:Value) (n:Nat) (l:List D):N8 nx t 2 1 [.bool false,.slice none 0 0] [(0,2,.agg [.sc a,.sl 3 n l])]=some (.ref nx 0 1 1,some (.row t 2 false false [.sc a,.sl 3 n l]),[]):=(rfl)
theorem eF {H:E7} {o t n:Nat} {z:Bool} {l:List D} (h:f7 H o=some (.gro t 2 z l)) (hl:l.length=n*2):w5 H (.gr 2 o n)=some (.sl 2 n l):=by
 simp only[w5,dH,h]
 rw[if_pos ⟨hl,by decide,by decide,by decide⟩]
 rfl
theorem zF (k:Nat) (R:List (Bool × List p7)) (b:Bool) (L:List p7):J6 k (R++ [(b,L)])=J6 k R++ [.sc (.bool b),.sl k L.length (A5 L)]:=by simp[J6,JP]
theorem ZP {s:List UInt8} {b:Bool} {L:List p7} {k:Int} (h:T6 s=some (b,L,k)):SU L∧L.length≤140737488351232:=by
 have h1:=(cZ (by rw[yW h]:(B7 b L k).2=0)).2.2.2
 have h2:=(Y2 h1).1
 exact ⟨HD h1,by omega⟩
section
variable (w:World) (n:Nat)
theorem bH5 (s:List UInt8) (hs:s.length≤100000):k8 (EN w (n+11)) 7 [m6 s] (PA (cB s)) ⟨[],0,0⟩:=by
 have hsz:=n4 s
 rw[← aU2]
 have hok:bM [] (PA (mE s)):=by
  rcases mE s with _|c
  ·exact fV
  ·exact fV
 have hun:mE s=if 60000<s.length then none else match C0 [pJ,gZ] ((n9 10 s).headD []) with
  |none=>none
  |some (m,r)=>if r= []∧(n9 10 s).length≤102 then (match aN 1 (n9 10 s).tail.dropLast [] with
   |none=>none
   |some R=>if q8 (m.headD 0,R)=(s,0) then some (m.headD 0,R) else none) else none:=rfl
 generalize mE s=Z at*
 by_cases h1:60000<s.length
 ·rw[if_pos h1] at hun
  subst hun
  refine A2 rfl rfl (fun _ _=>rfl) (Nat.le_of_ble_eq_true rfl) (d7 w) hok rfl fun C hC h0=>?_
  simp (disch:=first|omega|exact f6|(simp only[i6]<;>omega)) only[WA,Nat.reduceEqDiff,Nat.reduceLT,↓reduceIte,reduceCtorEq,List.replicate,c7,hsz]
  all_goals try (exfalso;omega)
  exact y4 h0 rfl
 rw[if_neg h1] at hun
 have hsp:=ZW w (n+4) s 10 (by omega)
 have hwl:=(Go.Itp.words_len (c:=10) s.length (s:=s) (Nat.le_refl _))
 have hwn:=eN 10 s
 generalize n9 10 s=q at*
 obtain ⟨q0,qt,rfl⟩:∃ a t,q=a::t:=by
  cases q with
  |nil=>exact absurd rfl hwn
  |cons a t=>exact ⟨a,t,rfl⟩
 have hq0:=hwl.2 q0 (by simp)
 have hm:=IY w (n+3) q0 [115,116,97,114,116,32,119,105,116,104,32,35,32,115,116,105,116,99,104,101,115,46] (by omega) (by decide)
 rw[show n9 35 ([115,116,97,114,116,32,119,105,116,104,32,35,32,115,116,105,116,99,104,101,115,46]:List UInt8)= [pJ,gZ] from by decide+kernel] at hm
 have hlen:=fun m r (h:C0 [pJ,gZ] q0=some (m,r))=>nG (f:= [pJ,gZ]) (by simp) h
 simp only[List.headD_cons,List.tail_cons] at hun
 have dl0:C8 (sD q0::List.map sD qt) 0 none=some (m6 q0):=(rfl)
 cases hM:C0 [pJ,gZ] q0 with
 |none=>
  rw[hM] at hm hun
  unfold jF at hm
  simp only at hun
  subst hun
  refine A2 rfl rfl (fun _ _=>rfl) (Nat.le_of_ble_eq_true rfl) (d7 w) hok rfl fun C hC h0=>?_
  simp (disch:=first|omega|exact f6|fail) only[WA,Nat.reduceEqDiff,Nat.reduceLT,↓reduceIte,reduceCtorEq,List.replicate,c7,hsz]
  all_goals try (exfalso;omega)
  refine k9 (by rw[hC];exact hsp) rfl rfl (fun _=>rfl) ?_
  simp (disch:=first|omega|exact f6|fail) only[WA,Nat.reduceEqDiff,Nat.reduceLT,↓reduceIte,reduceCtorEq,FZ,dl0,List.length_cons]
  refine k9 (by rw[hC];exact hm) rfl rfl (fun _=>rfl) ?_
  simp (disch:=first|omega|exact f6|(simp only[i6]<;>omega)) only[WA,Nat.reduceEqDiff,Nat.reduceLT,↓reduceIte,reduceCtorEq]
  exact y4 h0 rfl
 |some mr=>
  obtain ⟨m,r⟩:=mr
  have hl:=hlen m r hM
  rw[hM] at hm hun
  unfold jF at hm
  simp only at hun
  clear hlen hM
  obtain ⟨v,rfl⟩:∃ v,m= [v]:=by
   cases m with
   |nil=>simp at hl
   |cons a q=>cases q with
    |nil=>exact ⟨a,rfl⟩
    |cons b c=>simp at hl
  simp only[List.headD_cons] at hun
  have hemp:((⟨r.toArray⟩:ByteArray)=⟨#[]⟩)=(r= []):=X0 r []
  by_cases hr:r= []
  case neg=>
   rw[if_neg fun h=>hr h.1] at hun
   subst hun
   refine A2 rfl rfl (fun _ _=>rfl) (Nat.le_of_ble_eq_true rfl) (d7 w) hok rfl fun C hC h0=>?_
   simp (disch:=first|omega|exact f6|fail) only[WA,Nat.reduceEqDiff,Nat.reduceLT,↓reduceIte,reduceCtorEq,List.replicate,c7,hsz]
   all_goals try (exfalso;omega)
   refine k9 (by rw[hC];exact hsp) rfl rfl (fun _=>rfl) ?_
   simp (disch:=first|omega|exact f6|fail) only[WA,Nat.reduceEqDiff,Nat.reduceLT,↓reduceIte,reduceCtorEq,FZ,dl0,List.length_cons]
   refine k9 (by rw[hC];exact hm) rfl rfl (fun _=>rfl) ?_
   simp (disch:=first|omega|exact f6|(simp only[i6]<;>omega)) only[WA,Nat.reduceEqDiff,Nat.reduceLT,↓reduceIte,reduceCtorEq,hemp,hr]
   exact y4 h0 rfl
  subst hr
  by_cases h102:(q0::qt).length≤102
  case neg=>
   rw[if_neg fun h=>h102 h.2] at hun
   subst hun
   simp only[List.length_cons] at h102
   refine A2 rfl rfl (fun _ _=>rfl) (Nat.le_of_ble_eq_true rfl) (d7 w) hok rfl fun C hC h0=>?_
   simp (disch:=first|omega|exact f6|fail) only[WA,Nat.reduceEqDiff,Nat.reduceLT,↓reduceIte,reduceCtorEq,List.replicate,c7,hsz]
   all_goals try (exfalso;omega)
   refine k9 (by rw[hC];exact hsp) rfl rfl (fun _=>rfl) ?_
   simp (disch:=first|omega|exact f6|fail) only[WA,Nat.reduceEqDiff,Nat.reduceLT,↓reduceIte,reduceCtorEq,FZ,dl0,List.length_cons]
   refine k9 (by rw[hC];exact hm) rfl rfl (fun _=>rfl) ?_
   simp (disch:=first|omega|exact f6|(simp only[i6]<;>omega)) only[WA,Nat.reduceEqDiff,Nat.reduceLT,↓reduceIte,reduceCtorEq]
   all_goals try (exfalso;omega)
   exact y4 h0 rfl
  rw[if_pos ⟨rfl,h102⟩] at hun
  refine A2 rfl rfl (fun _ _=>rfl) (Nat.le_of_ble_eq_true rfl) (d7 w) hok rfl fun C hC h0=>?_
  have hrn:C.E.rounds=A4:=by rw[hC,j5]
  simp only[List.length_cons] at h102
  simp (disch:=first|omega|exact f6|fail) only[WA,Nat.reduceEqDiff,Nat.reduceLT,↓reduceIte,reduceCtorEq,List.replicate,c7,hsz]
  all_goals try (exfalso;omega)
  refine k9 (by rw[hC];exact hsp) rfl rfl (fun _=>rfl) ?_
  simp (disch:=first|omega|exact f6|fail) only[WA,Nat.reduceEqDiff,Nat.reduceLT,↓reduceIte,reduceCtorEq,FZ,dl0,List.length_cons]
  refine k9 (by rw[hC];exact hm) rfl rfl (fun _=>rfl) ?_
  simp (disch:=first|omega|exact f6|(simp only[i6]<;>omega)) only[WA,Nat.reduceEqDiff,Nat.reduceLT,Nat.reduceAdd,↓reduceIte,reduceCtorEq,List.replicate,List.map_cons,List.map_nil,FZ,dl1]
  all_goals try (exfalso;omega)
  obtain ⟨Q,hQ⟩:∃ Q,Q=q0::qt:=⟨_,rfl⟩
  have e1:sD q0::List.map sD qt=Q.map sD:=by rw[hQ];rfl
  have e2:qt.length+1=Q.length:=by rw[hQ];rfl
  have hmid:qt.dropLast.length=Q.length - 2:=by rw[List.length_dropLast];omega
  have hQj:∀ j,1≤j→j - 1<qt.dropLast.length→Q[j]! =qt.dropLast[j - 1]! :=fun j a b=>by
   rw[getElem!_pos qt.dropLast _ b,getElem!_pos Q j (by omega),List.getElem_dropLast]
   simp only[hQ]
   rw[List.getElem_cons,dif_neg (by omega)]
  have hQl:∀ j,j<Q.length→Q[j]!.length≤s.length:=fun j a=>hwl.2 _ (by rw[← hQ,getElem!_pos Q j a];exact List.getElem_mem a)
  rw[e1,e2]
  rw[e2] at h102
  clear e1 dl0 hsp hm hl hwl hwn hq0 hQ
  generalize qt.dropLast=mid at*
  refine s8 (fun m fr st=>∃ (j:Nat) (acc:List (Bool × List p7)),m=Q.length - j∧1≤j∧j - 1≤mid.length∧acc.length=j - 1∧uK acc∧aN 1 mid []=aN j (mid.drop (j - 1)) acc∧fr= [(0,m6 s),(2,.ptr 0 0),(4,.sl 3 Q.length (Q.map sD)),(8,.ptr 1 0),(9,.sc (.int .i64 j))]∧
   st=⟨[(2,.gro 42 2 false (J6 3 acc)),(1,.box 24 1 [.sc (.int .i64 v),.gr 2 2 acc.length]),(0,.box 24 1 [.sc (.int .i64 0),.sc (.slice none 0 0)])],3,0⟩) (Q.length - 1) ?_ ⟨_,_,gQ 1 24 1 1 42 2 rfl rfl (Nat.ne_of_beq_eq_false rfl),1,[],by omega,Nat.le_refl _,by omega,rfl,(fun r hr=>by cases hr),rfl,rfl,rfl⟩ ?_
  ·rw[hrn];unfold A4;omega
  rintro m fr st ⟨j,acc,rfl,hj1,hj,hal,hak,hinv,rfl,rfl⟩
  have hd:=P1 3 acc
  by_cases hlt:j - 1<mid.length
  ·have hmj:mid.drop (j - 1)=mid[j - 1]! ::mid.drop (j - 1+1):=by rw[List.drop_eq_getElem_cons hlt,getElem!_pos mid _ hlt]
   have hq:=hQj j hj1 hlt
   have hxl:=hQl j (by omega)
   have hpr:=bU9 w n Q[j]! (by omega)
   rw[hmj,aN,← hq] at hinv
   generalize hX:Q[j]! =X at*
   cases hR:T6 X with
   |none=>
    rw[hR] at hpr hinv
    simp only at hinv
    rw[hinv] at hun
    simp only at hun
    subst hun
    unfold tW at hpr
    simp only at hpr
    simp (disch:=first|omega|exact f6|fail) only[WA,Nat.reduceEqDiff,Nat.reduceLT,↓reduceIte,reduceCtorEq,TD,hX]
    all_goals try (exfalso;omega)
    refine k9 (by rw[hC];exact hpr) rfl rfl (fun _=>rfl) ?_
    simp (disch:=first|omega|exact f6|(simp only[i6]<;>omega)) only[WA,Nat.reduceEqDiff,Nat.reduceLT,Nat.reduceAdd,Int.reduceEq,↓reduceIte,reduceCtorEq,List.replicate]
    exact y4 h0 rfl
   |some y=>
    obtain ⟨b,L,k⟩:=y
    have hRK:=ZP hR
    rw[hR] at hpr hinv
    simp only at hinv
    unfold tW at hpr
    simp only at hpr
    by_cases hkj:k=(j:Int)
    case neg=>
     rw[if_neg hkj] at hinv
     rw[hinv] at hun
     simp only at hun
     subst hun
     simp (disch:=first|omega|exact f6|fail) only[WA,Nat.reduceEqDiff,Nat.reduceLT,↓reduceIte,reduceCtorEq,TD,hX]
     all_goals try (exfalso;omega)
     refine k9 (by rw[hC];exact hpr) rfl rfl (fun _=>rfl) ?_
     simp (disch:=first|omega|exact f6|(simp only[i6]<;>omega)) only[WA,Nat.reduceEqDiff,Nat.reduceLT,Nat.reduceAdd,↓reduceIte,reduceCtorEq,List.replicate,hkj]
     exact y4 h0 rfl
    rw[if_pos hkj] at hinv
    subst hkj
    have hsn:=zF 3 acc b L
    generalize J6 3 acc=AD at*
    simp (disch:=first|omega|exact f6|fail) only[WA,Nat.reduceEqDiff,Nat.reduceLT,↓reduceIte,reduceCtorEq,TD,hX]
    all_goals try (exfalso;omega)
    refine k9 (by rw[hC];exact hpr) rfl rfl (fun _=>rfl) ?_
    simp (disch:=first|omega|exact f6|(simp only[i6]<;>omega)) only[WA,Nat.reduceEqDiff,Nat.reduceLT,Nat.reduceAdd,↓reduceIte,reduceCtorEq,List.replicate,EZ]
    all_goals try (exfalso;omega)
    refine ⟨Q.length - (j+1),_,_,by omega,p9 [(5,2),(1,1),(0,0)] 3 h0 rfl rfl rfl rfl,j+1,acc++ [(b,L)],rfl,by omega,by omega,by simp;omega,fun r hr=>?_,?_,by rfl,?_⟩
    ·rcases List.mem_append.1 hr with hr|hr
     ·exact hak r hr
     ·rw[List.mem_singleton.1 hr];exact hRK
    ·rw[hinv,show j+1 - 1=j - 1+1 by omega];rfl
    ·rw[hsn,List.length_append];rfl
  ·have hje:j - 1=mid.length:=by omega
   rw[hje,List.drop_length,aN] at hinv
   rw[hinv] at hun
   simp only at hun
   have hch:=WU w (n+1) 2 3 (v,acc) (by simp only;omega) hak
   have hmj:((⟨(q8 (v,acc)).1.toArray⟩:ByteArray)=⟨s.toArray⟩)=((q8 (v,acc)).1=s):=X0 _ _
   have hpair:q8 (v,acc)=(s,0)↔(q8 (v,acc)).2=0∧(q8 (v,acc)).1=s:=⟨fun h=>by rw[h];exact ⟨rfl,rfl⟩,fun h=>Prod.ext h.2 h.1⟩
   have hsnap:∀ st:l9,f7 st.own 2=some (.gro 42 2 false (J6 3 acc))→J7 st.own [.agg [.sc (.int .i64 v),.gr 2 2 acc.length]]=some [G5 2 3 (v,acc)]:=fun st h=>by
    have:=eF h hd
    simp only[J7,w5] at this ⊢
    simp[this]
   have hfin:w5 ([(2,.gro 42 2 false (J6 3 acc))]:E7) (.gr 2 2 acc.length)=some (.sl 2 acc.length (J6 3 acc)):=eF rfl hd
   by_cases he:(q8 (v,acc)).2=0
   case neg=>
    replace hun:=hun.trans (if_neg fun h=>he (hpair.1 h).1)
    subst hun
    clear hpair
    generalize (q8 (v,acc)).2=e at*
    generalize (q8 (v,acc)).1=T at*
    simp (disch:=first|omega|exact f6|fail) only[WA,Nat.reduceEqDiff,Nat.reduceLT,↓reduceIte,reduceCtorEq,TD]
    all_goals try (exfalso;omega)
    refine a6 (by rw[hC];exact hch.flat rfl (hsnap _ rfl)) ?_
    simp (disch:=first|omega|exact f6|(simp only[i6]<;>omega)) only[WA,Nat.reduceEqDiff,Nat.reduceLT,↓reduceIte,reduceCtorEq,he]
    exact y4 h0 rfl
   by_cases ht:(q8 (v,acc)).1=s
   case neg=>
    replace hun:=hun.trans (if_neg fun h=>ht (hpair.1 h).2)
    subst hun
    rw[he] at hch
    rw[eq_false ht] at hmj
    clear hpair
    generalize (q8 (v,acc)).1=T at*
    simp (disch:=first|omega|exact f6|fail) only[WA,Nat.reduceEqDiff,Nat.reduceLT,↓reduceIte,reduceCtorEq,TD]
    all_goals try (exfalso;omega)
    refine a6 (by rw[hC];exact hch.flat rfl (hsnap _ rfl)) ?_
    simp (disch:=first|omega|exact f6|(simp only[i6]<;>omega)) only[WA,Nat.reduceEqDiff,Nat.reduceLT,↓reduceIte,reduceCtorEq,hmj]
    exact y4 h0 rfl
   ·replace hun:=hun.trans (if_pos (hpair.2 ⟨he,ht⟩))
    subst hun
    rw[he,ht] at hch
    clear hpair hmj
    simp (disch:=first|omega|exact f6|fail) only[WA,Nat.reduceEqDiff,Nat.reduceLT,↓reduceIte,reduceCtorEq,TD]
    all_goals try (exfalso;omega)
    refine a6 (by rw[hC];exact hch.flat rfl (hsnap _ rfl)) ?_
    simp (disch:=first|exact f6|(simp only[i6]<;>omega)) only[WA,Nat.reduceEqDiff,Nat.reduceLT,↓reduceIte,reduceCtorEq]
    exact GX (s:=2) (eF rfl hd) rfl (.inl (by decide)) h0 rfl
end
set_option maxHeartbeats 1000000
theorem FB (k:Nat) (R:List (Bool × List p7)) (j:Nat) (hj:j<R.length):C8 (J6 k R) (j*2) none=some (.sc (.bool R[j]!.1)):=sY (JP k) 2 R (fun _=>rfl) j 0 hj (by decide)
theorem lI (k:Nat) (R:List (Bool × List p7)) (j:Nat) (hj:j<R.length):C8 (J6 k R) (j*2+1) none=some (.sl k R[j]!.2.length (A5 R[j]!.2)):=sY (JP k) 2 R (fun _=>rfl) j 1 hj (by decide)
def UC (c:kC):Bool:=(c.2.any fun r=>rI r.2.length)||decide (20<c.2.length∧c.2.length≤100∨110<c.2.length)
theorem bF6 (d:Bool):bR6 true (.sc (.bool d)) (.sc (.bool d))=some (.sc (.bool false)):=by cases d<;>rfl
section
variable (w:World) (n:Nat)
theorem aE1 (s k:Nat) (c:kC) (hL:c.2.length≤140737488351232) (hK:uK c.2):k8 (EN w (n+2)) 4 [G5 s k c] (.sc (.bool (UC c))) ⟨[],0,0⟩:=by
 obtain ⟨z,R⟩:=c
 simp only at hL hK
 have hil:=P1 k R
 unfold UC
 simp only
 refine b8 rfl rfl (fun _ _=>rfl) (Nat.le_of_ble_eq_true rfl) (d7 w) rfl fun C hC h0=>?_
 have hrn:C.E.rounds=A4:=by rw[hC,j5]
 simp (disch:=first|exact f6|fail) only[WA,Nat.reduceEqDiff,Nat.reduceLT,↓reduceIte,reduceCtorEq,c4]
 refine s8 (fun m fr st=>∃ j:Nat,m=R.length - j∧j≤R.length∧(R.any fun r=>rI r.2.length)=((R.drop j).any fun r=>rI r.2.length)∧fr= [(1,.ptr 0 0),(3,.sc (.int .i64 j))]∧st=⟨[(0,.box 24 1 [.sc (.int .i64 z),.sl s R.length (J6 k R)])],1,0⟩) R.length ?_ ⟨_,_,.refl _ _,0,by omega,Nat.zero_le _,rfl,rfl,rfl⟩ ?_
 ·rw[hrn];unfold A4;omega
 rintro m fr st ⟨j,rfl,hj,hinv,rfl,rfl⟩
 by_cases hlt:j<R.length
 ·have hRj:R.drop j=R[j]! ::R.drop (j+1):=by rw[List.drop_eq_getElem_cons hlt,getElem!_pos R j hlt]
  have hat:=lI k R j hlt
  have hm:=hK R[j]! (by rw[getElem!_pos R j hlt];exact List.getElem_mem hlt)
  have hg:=aX1 w n k R[j]!.2 hm.2
  rw[hRj,List.any_cons] at hinv
  generalize R[j]!.2=L at*
  rw[hinv]
  cases hb:rI L.length with
  |true=>
   rw[hb] at hg
   rw[Bool.true_or,Bool.true_or]
   simp (disch:=first|omega|exact f6|fail) only[WA,Nat.reduceEqDiff,Nat.reduceLT,↓reduceIte,aL8,hat]
   all_goals try (exfalso;omega)
   refine a6 (by rw[hC];exact hg.flat rfl rfl) ?_
   simp (disch:=first|exact f6|fail) only[WA,Nat.reduceEqDiff,Nat.reduceLT,↓reduceIte]
   exact b7 rfl h0 rfl
  |false=>
   rw[hb] at hg
   rw[hb,Bool.false_or] at hinv
   rw[Bool.false_or]
   simp (disch:=first|omega|exact f6|fail) only[WA,Nat.reduceEqDiff,Nat.reduceLT,↓reduceIte,aL8,hat]
   all_goals try (exfalso;omega)
   refine a6 (by rw[hC];exact hg.flat rfl rfl) ?_
   simp (disch:=first|omega|exact f6|fail) only[WA,Nat.reduceEqDiff,Nat.reduceLT,↓reduceIte]
   rw[← hinv]
   exact ⟨R.length - (j+1),_,_,by omega,.refl _ _,j+1,rfl,by omega,hinv,rfl,rfl⟩
 ·have:j=R.length:=by omega
  subst this
  rw[List.drop_length] at hinv
  rw[hinv,List.any_nil,Bool.false_or]
  by_cases h1:20<R.length∧R.length≤100∨110<R.length
  ·rw[decide_eq_true h1]
   rcases h1 with h1|h1
   all_goals
    repeat' (first|(simp (disch:=first|omega|exact f6|fail) only[WA,Nat.reduceEqDiff,Nat.reduceLT,↓reduceIte,aL8]))
    all_goals try (exfalso;omega)
    all_goals exact b7 rfl h0 rfl
  ·rw[decide_eq_false h1]
   repeat' (first|(simp (disch:=first|omega|exact f6|fail) only[WA,Nat.reduceEqDiff,Nat.reduceLT,↓reduceIte,aL8])|(apply y9<;>intro _))
   all_goals try (exfalso;omega)
   all_goals exact b7 rfl h0 rfl
theorem QL (s k s' k':Nat) (c:kC) (hL:c.2.length≤140737488351232) (hK:uK c.2):k8 (EN w (n+2)) 11 [G5 s k c,G5 s' k' c] (.sc (.bool true)) ⟨[],0,0⟩:=by
 obtain ⟨z,R⟩:=c
 simp only at hL hK
 have hil:=P1 k R
 have hil':=P1 k' R
 refine b8 rfl rfl (fun _ _=>rfl) (Nat.le_of_ble_eq_true rfl) (d7 w) rfl fun C hC h0=>?_
 have hrn:C.E.rounds=A4:=by rw[hC,j5]
 simp (disch:=first|exact f6|fail) only[WA,Nat.reduceEqDiff,Nat.reduceLT,Nat.reduceAdd,↓reduceIte,reduceCtorEq,c11]
 refine s8 (fun m fr st=>∃ j:Nat,m=R.length - j∧j≤R.length∧fr= [(2,.ptr 0 0),(3,.ptr 1 0),(5,.sc (.int .i64 j))]∧st=⟨[(1,.box 24 1 [.sc (.int .i64 z),.sl s' R.length (J6 k' R)]),(0,.box 24 1 [.sc (.int .i64 z),.sl s R.length (J6 k R)])],2,0⟩) R.length ?_ ⟨_,_,.refl _ _,0,by omega,Nat.zero_le _,rfl,rfl⟩ ?_
 ·rw[hrn];unfold A4;omega
 rintro m fr st ⟨j,rfl,hj,rfl,rfl⟩
 by_cases hlt:j<R.length
 ·have a1:=lI k R j hlt
  have a0:=FB k R j hlt
  have b1:=lI k' R j hlt
  have b0:=FB k' R j hlt
  have hm:=hK R[j]! (by rw[getElem!_pos R j hlt];exact List.getElem_mem hlt)
  have hs:=bI7 w n k k' R[j]!.2 R[j]!.2 hm.2 hm.2
  rw[decide_eq_true rfl] at hs
  generalize R[j]!.2=L at*
  generalize R[j]!.1=b at*
  simp (disch:=first|omega|exact f6|fail) only[WA,l6,p8,Nat.reduceEqDiff,Nat.reduceLT,↓reduceIte,reduceCtorEq,aL3,a1,a0,b1,b0,bF6]
  all_goals try (exfalso;omega)
  refine a6 (by rw[hC];exact hs.flat rfl rfl) ?_
  simp (disch:=first|omega|exact f6|fail) only[WA,Nat.reduceEqDiff,Nat.reduceLT,↓reduceIte]
  exact ⟨R.length - (j+1),_,_,by omega,.refl _ _,j+1,rfl,by omega,rfl,rfl⟩
 ·have:j=R.length:=by omega
  subst this
  simp (disch:=first|omega|exact f6|fail) only[WA,Nat.reduceEqDiff,Nat.reduceLT,↓reduceIte,reduceCtorEq,aL3]
  all_goals try (exfalso;omega)
  exact b7 rfl h0 rfl
end
end Go.Proofs.YtimmmnanllcfoaaGreatDoor
namespace Go.Itp
set_option linter.unusedVariables false
set_option linter.unusedSimpArgs false
set_option maxRecDepth 10000
noncomputable def mG (s:List UInt8):Option kC:=if 60000<s.length then none else if (n9 32 ((n9 10 s).headD [])).length ≠ 4∨102<(n9 10 s).length then none else match aN 1 (n9 10 s).tail.dropLast [] with
 |none=>none
 |some R=>if q8 ((I9 ((n9 32 ((n9 10 s).headD []))[2]!)).getD 0,R)=(s,0) then some ((I9 ((n9 32 ((n9 10 s).headD []))[2]!)).getD 0,R) else none
theorem VK {s:List UInt8} {c:kC} (h:mG s=some c):cB s=some c:=by
 unfold mG at h
 split at h
 ·cases h
 split at h
 ·cases h
 split at h
 ·cases h
 split at h
 ·rename_i hc
  cases h
  exact PW hc
 ·cases h
theorem aX5 {s:List UInt8} {c:kC} (h:q8 c=(s,0)):mG s=some c:=by
 obtain ⟨h1,h2,h3,h4⟩:=bA (by rw[h]:(q8 c).2=0)
 obtain ⟨c1,c2,c3⟩:=S9 h1
 have hw:=aQ h
 have hlen:s.length≤60000:=by
  rw[h] at h4
  rw[show s=_ from congrArg Prod.fst h4]
  exact h3
 have hst:=fZ c2.1
 unfold mG
 rw[if_neg (by omega),hw]
 simp only[List.headD_cons,List.tail_cons,List.dropLast_concat,hst]
 have hl:(F5 c.1::(U9 1 c.2++ [[]])).length≤102:=by simp only[List.length_cons,List.length_append,List.length_nil,W9];omega
 rw[if_neg (fun h=>h.elim (fun h=>h rfl) (fun h=>by omega)),jP _ _ _ h2]
 have hn:(I9 (([[115,116,97,114,116],[119,105,116,104],Lib.itoa c.1,[115,116,105,116,99,104,101,115,46]]:List (List UInt8))[2]!)).getD 0=c.1:=by
  show (I9 (Lib.itoa c.1)).getD 0=c.1
  rw[kW c2.1 (by omega)];rfl
 simp only[List.nil_append]
 rw[hn]
 exact if_pos h
theorem aX4 (s:List UInt8):mG s=cB s:=by
 cases h:cB s with
 |some c=>exact aX5 (nM h)
 |none=>
  cases hp:mG s with
  |none=>rfl
  |some x=>rw[VK hp] at h;cases h
end Go.Itp
namespace Go.Proofs.YtimmmnanllcfoaaGreatDoor
open Go Go.Itp
set_option maxRecDepth 100000
set_option maxHeartbeats 1000000
set_option linter.unusedSimpArgs false
set_option linter.unusedVariables false
abbrev cA6 (s k:Nat) (z:Int) (R:List (Bool × List p7)):Go.Itp.Obj:= .box 24 1 [.sc (.int .i64 z),.sl s R.length (J6 k R)]
section
variable (w:World) (n:Nat)
theorem aW1 (s k:Nat) (c:kC) (hL:c.2.length≤140737488351232) (hK:uK c.2):k8 (EN w (n+5)) 10 [G5 s k c] (.sc (.int .i64 (M4 c))) ⟨[],0,0⟩:=by
 obtain ⟨z,R⟩:=c
 simp only at hL hK
 have hil:=P1 k R
 unfold M4
 simp only
 by_cases h1:100<R.length
 ·rw[if_pos h1]
  refine b8 rfl rfl (fun _ _=>rfl) (Nat.le_of_ble_eq_true rfl) (d7 w) rfl fun C hC h0=>?_
  simp (disch:=first|omega|exact f6|fail) only[WA,Nat.reduceEqDiff,Nat.reduceLT,↓reduceIte,reduceCtorEq,c10]
  all_goals try (exfalso;omega)
  exact b7 rfl h0 rfl
 rw[if_neg h1]
 by_cases h2:z<0∨200<z
 ·rw[if_pos h2]
  refine b8 rfl rfl (fun _ _=>rfl) (Nat.le_of_ble_eq_true rfl) (d7 w) rfl fun C hC h0=>?_
  rcases h2 with h2|h2
  all_goals
   repeat' (first|(simp (disch:=first|omega|exact f6|fail) only[WA,Nat.reduceEqDiff,Nat.reduceLT,↓reduceIte,reduceCtorEq,c10]))
   all_goals try (exfalso;omega)
   exact b7 rfl h0 rfl
 rw[if_neg h2]
 refine b8 rfl rfl (fun _ _=>rfl) (Nat.le_of_ble_eq_true rfl) (d7 w) rfl fun C hC h0=>?_
 have hrn:C.E.rounds=A4:=by rw[hC,j5]
 simp (disch:=first|omega|exact f6|fail) only[WA,Nat.reduceEqDiff,Nat.reduceLT,↓reduceIte,reduceCtorEq,c10]
 all_goals try (exfalso;omega)
 refine s8 (fun m fr st=>∃ j:Nat,m=R.length - j∧j≤R.length∧pW R=pW (R.drop j)∧fr= [(1,.ptr 0 0),(3,.sc (.int .i64 j))]∧st=⟨[(0,cA6 s k z R)],1,0⟩) R.length ?_ ⟨_,_,.refl _ _,0,by omega,Nat.zero_le _,rfl,rfl,rfl⟩ ?_
 ·rw[hrn];unfold A4;omega
 rintro m fr st ⟨j,rfl,hj,hinv,rfl,rfl⟩
 by_cases hlt:j<R.length
 ·have hRj:R.drop j=R[j]! ::R.drop (j+1):=by rw[List.drop_eq_getElem_cons hlt,getElem!_pos R j hlt]
  have hat:=lI k R j hlt
  have hm:=hK R[j]! (by rw[getElem!_pos R j hlt];exact List.getElem_mem hlt)
  have ha:=JH w (n+1) k R[j]!.2 hm.2 hm.1
  rw[hRj,pW] at hinv
  generalize R[j]!.2=L at*
  rw[hinv]
  by_cases h3:K3 L=0
  ·rw[if_pos h3] at hinv ⊢
   rw[h3] at ha
   simp (disch:=first|omega|exact f6|fail) only[WA,Nat.reduceEqDiff,Nat.reduceLT,↓reduceIte,WM,hat]
   all_goals try (exfalso;omega)
   refine a6 (by rw[hC];exact ha.flat rfl rfl) ?_
   simp (disch:=first|omega|exact f6|fail) only[WA,Nat.reduceEqDiff,Nat.reduceLT,↓reduceIte]
   rw[← hinv]
   exact ⟨R.length - (j+1),_,_,by omega,.refl _ _,j+1,rfl,by omega,hinv,rfl,rfl⟩
  ·rw[if_neg h3]
   generalize K3 L=e at*
   simp (disch:=first|omega|exact f6|fail) only[WA,Nat.reduceEqDiff,Nat.reduceLT,↓reduceIte,WM,hat]
   all_goals try (exfalso;omega)
   refine a6 (by rw[hC];exact ha.flat rfl rfl) ?_
   simp (disch:=first|exact f6|(simp only[i6]<;>omega)) only[WA,Nat.reduceEqDiff,Nat.reduceLT,↓reduceIte,h3]
   exact b7 rfl h0 rfl
 ·have:j=R.length:=by omega
  subst this
  rw[List.drop_length] at hinv
  rw[hinv]
  simp (disch:=first|omega|exact f6|fail) only[WA,Nat.reduceEqDiff,Nat.reduceLT,↓reduceIte,WM]
  all_goals try (exfalso;omega)
  exact b7 rfl h0 rfl
theorem PS (s k:Nat) (c:kC) (hL:c.2.length≤140737488351232) (hK:uK c.2):k8 (EN w (n+7)) 6 [G5 s k c] (.tup [m6 (q8 c).1,.sc (.int .i64 (q8 c).2)]) ⟨[],0,0⟩:=by
 have hc:=aW1 w (n+1) s k c hL hK
 rw[LW]
 by_cases h1:M4 c=0
 case neg=>
  rw[if_neg h1]
  generalize M4 c=e at*
  refine b8 rfl rfl (fun _ _=>rfl) (Nat.le_of_ble_eq_true rfl) (d7 w) rfl fun C hC h0=>?_
  simp (disch:=first|exact f6|fail) only[WA,Nat.reduceEqDiff,Nat.reduceLT,↓reduceIte,reduceCtorEq,c6]
  refine a6 (by rw[hC];exact hc.flat rfl rfl) ?_
  simp (disch:=first|exact f6|(simp only[i6]<;>omega)) only[WA,Nat.reduceEqDiff,Nat.reduceLT,↓reduceIte,h1]
  exact b7 rfl h0 rfl
 obtain ⟨hc1,hc2,_⟩:=S9 h1
 rw[h1] at hc
 rw[if_pos h1]
 clear h1
 obtain ⟨z,R⟩:=c
 simp only at hL hK hc1 hc2 ⊢
 have hil:=P1 k R
 have hi:=yU w (n+5) z (by omega) (by omega)
 have hzl:=C5 (z:=z) (by omega) (by omega)
 have hse:=FS z
 have hsl:(F5 z++ [10]).length≤40:=by rw[hse];simp only[List.length_append,List.length_cons,List.length_nil];omega
 generalize hJ:Q0 (F5 z++ [10]) 1 R=J at*
 generalize hS:F5 z++ [10]=S at*
 generalize Lib.itoa z=A at*
 have hse2:(115:UInt8)::116::97::114::116::32::119::105::116::104::32::(A++ [32,115,116,105,116,99,104,101,115,46,10])=S:=hse.symm
 refine b8 rfl rfl (fun _ _=>rfl) (Nat.le_of_ble_eq_true rfl) (d7 w) (by split<;>first|(split<;>rfl)|rfl) fun C hC h0=>?_
 have hrn:C.E.rounds=A4:=by rw[hC,j5]
 simp (disch:=first|exact f6|fail) only[WA,Nat.reduceEqDiff,Nat.reduceLT,↓reduceIte,reduceCtorEq,c6]
 refine a6 (by rw[hC];exact hc.flat rfl rfl) ?_
 simp (disch:=first|exact f6|fail) only[WA,Nat.reduceEqDiff,Nat.reduceLT,↓reduceIte]
 all_goals try (exfalso;omega)
 refine a6 (by rw[hC];exact hi.flat rfl rfl) ?_
 simp (disch:=first|exact f6|(simp only[i6]<;>omega)) only[WA,Nat.reduceEqDiff,Nat.reduceLT,↓reduceIte,K9,List.append_assoc,hse2]
 all_goals try (exfalso;omega)
 refine s8 (fun m fr st=>∃ (j:Nat) (F:List UInt8),m=R.length - j∧j≤R.length∧J=Q0 F ((j:Int)+1) (R.drop j)∧F.length≤40+j*2101∧fr= [(1,.ptr 0 0),(5,m6 F),(6,.sc (.int .i64 j))]∧
  st=⟨[(0,cA6 s k z R)],1,0⟩) R.length ?_ ⟨_,_,.refl _ _,0,S,by omega,Nat.zero_le _,hJ.symm,by omega,rfl,rfl⟩ ?_
 ·rw[hrn];unfold A4;omega
 rintro m fr st ⟨j,F,rfl,hj,hinv,hF,rfl,rfl⟩
 have hFz:=n4 F
 by_cases hlt:j<R.length
 case neg=>
  have:j=R.length:=by omega
  subst this
  rw[List.drop_length,xN] at hinv
  subst hinv
  simp only[if_true]
  by_cases hb:60000<F.length
  ·rw[if_pos hb]
   simp (disch:=first|omega|exact f6|fail) only[WA,Nat.reduceEqDiff,Nat.reduceLT,↓reduceIte,aM2,hFz]
   all_goals try (exfalso;omega)
   exact b7 rfl h0 rfl
  ·rw[if_neg hb]
   simp (disch:=first|omega|exact f6|fail) only[WA,Nat.reduceEqDiff,Nat.reduceLT,↓reduceIte,aM2,hFz]
   all_goals try (exfalso;omega)
   exact b7 rfl h0 rfl
 have hRj:R.drop j=R[j]! ::R.drop (j+1):=by rw[List.drop_eq_getElem_cons hlt,getElem!_pos R j hlt]
 have hag:=rX k R j hlt
 have hm:=hK R[j]! (by rw[getElem!_pos R j hlt];exact List.getElem_mem hlt)
 have hrw:=bV4 w n R[j]!.1 k R[j]!.2 ((j:Int)+1) hm.2 hm.1
 have hrl:=QG (b:=R[j]!.1) (L:=R[j]!.2) (n:=(j:Int)+1)
 rw[hRj] at hinv
 have e1:=tM F ((j:Int)+1) R[j]! (R.drop (j+1))
 have e2:=xM F ((j:Int)+1) R[j]! (R.drop (j+1))
 generalize hr:R[j]! =r at*
 obtain ⟨b,L⟩:=r
 simp only at hag hrw e1 e2 hrl
 by_cases h2:(B7 b L ((j:Int)+1)).2=0
 ·rw[e1 h2] at hinv
  rw[h2] at hrw
  generalize (B7 b L ((j:Int)+1)).1=T at*
  clear e1 e2 h2
  simp (disch:=first|omega|exact f6|fail) only[WA,Nat.reduceEqDiff,Nat.reduceLT,↓reduceIte,aM2,hag]
  all_goals try (exfalso;omega)
  refine a6 (by rw[hC];exact hrw.flat rfl rfl) ?_
  simp (disch:=first|omega|exact f6|(simp only[i6]<;>omega)) only[WA,Nat.reduceEqDiff,Nat.reduceLT,↓reduceIte,K9,List.append_assoc]
  all_goals try (exfalso;omega)
  refine ⟨R.length - (j+1),_,_,by omega,.refl _ _,j+1,F++(T++ [10]),rfl,by omega,?_,?_,rfl,rfl⟩
  ·rw[hinv];rfl
  ·simp only[List.length_append,List.length_cons,List.length_nil];omega
 ·rw[e2 h2] at hinv
  subst hinv
  generalize (B7 b L ((j:Int)+1)).2=e at*
  simp only[if_neg h2]
  clear e1 e2
  simp (disch:=first|omega|exact f6|fail) only[WA,Nat.reduceEqDiff,Nat.reduceLT,↓reduceIte,aM2,hag]
  all_goals try (exfalso;omega)
  refine a6 (by rw[hC];exact hrw.flat rfl rfl) ?_
  simp (disch:=first|exact f6|(simp only[i6]<;>omega)) only[WA,Nat.reduceEqDiff,Nat.reduceLT,↓reduceIte,h2]
  exact b7 rfl h0 rfl
end
noncomputable def aX3 (s:List UInt8) (q W:List (List UInt8)):Option kC:=if W.length ≠ 4∨102<q.length then none else match aN 1 q.tail.dropLast [] with
 |none=>none
 |some R=>if q8 ((I9 (W[2]!)).getD 0,R)=(s,0) then some ((I9 (W[2]!)).getD 0,R) else none
section
variable (w:World) (n:Nat)
theorem aX6 (s:List UInt8) (hs:s.length≤100000):k8 (EN w (n+8)) 8 [m6 s] (PA (cB s)) ⟨[],0,0⟩:=by
 have hsz:=n4 s
 rw[← aX4]
 have hok:bM [] (PA (mG s)):=by
  rcases mG s with _|c
  ·exact fV
  ·exact fV
 have hun:mG s=if 60000<s.length then none else aX3 s (n9 10 s) (n9 32 ((n9 10 s).headD [])):=rfl
 generalize mG s=Z at*
 by_cases h1:60000<s.length
 ·rw[if_pos h1] at hun
  subst hun
  refine A2 rfl rfl (fun _ _=>rfl) (Nat.le_of_ble_eq_true rfl) (d7 w) hok rfl fun C hC h0=>?_
  simp (disch:=first|omega|exact f6|(simp only[i6]<;>omega)) only[WA,Nat.reduceEqDiff,Nat.reduceLT,↓reduceIte,reduceCtorEq,List.replicate,c8,hsz]
  all_goals try (exfalso;omega)
  exact y4 h0 rfl
 rw[if_neg h1] at hun
 have hsp:=TQ w (n+6) s 10 (by omega)
 have hwl:=(Go.Itp.words_len (c:=10) s.length (s:=s) (Nat.le_refl _))
 have hwn:=eN 10 s
 generalize n9 10 s=q at*
 obtain ⟨q0,qt,rfl⟩:∃ a t,q=a::t:=by
  cases q with
  |nil=>exact absurd rfl hwn
  |cons a t=>exact ⟨a,t,rfl⟩
 have hq0:=hwl.2 q0 (by simp)
 have hsw:=TQ w (n+6) q0 32 (by omega)
 have hwl2:=(Go.Itp.words_len (c:=32) q0.length (s:=q0) (Nat.le_refl _))
 simp only[List.headD_cons] at hun
 have dl0:C8 (sD q0::List.map sD qt) 0 none=some (m6 q0):=(rfl)
 generalize n9 32 q0=W at*
 unfold aX3 at hun
 simp only[List.tail_cons] at hun
 by_cases hbad:W.length ≠ 4∨102<(q0::qt).length
 ·rw[if_pos hbad] at hun
  subst hun
  simp only[List.length_cons] at hbad
  rcases (by omega:¬ W.length=4∨(W.length=4∧102<qt.length+1)) with h4|⟨h4,h5⟩
  ·refine A2 rfl rfl (fun _ _=>rfl) (Nat.le_of_ble_eq_true rfl) (d7 w) hok rfl fun C hC h0=>?_
   simp (disch:=first|omega|exact f6|fail) only[WA,Nat.reduceEqDiff,Nat.reduceLT,↓reduceIte,reduceCtorEq,List.replicate,c8,hsz]
   all_goals try (exfalso;omega)
   refine k9 (by rw[hC];exact hsp) rfl rfl (fun _=>rfl) ?_
   simp (disch:=first|omega|exact f6|fail) only[WA,Nat.reduceEqDiff,Nat.reduceLT,↓reduceIte,reduceCtorEq,FZ,dl0,List.length_cons]
   refine k9 (by rw[hC];exact hsw) rfl rfl (fun _=>rfl) ?_
   simp (disch:=first|omega|exact f6|(simp only[i6]<;>omega)) only[WA,Nat.reduceEqDiff,Nat.reduceLT,↓reduceIte,reduceCtorEq]
   all_goals try (exfalso;omega)
   all_goals exact y4 h0 rfl
  ·refine A2 rfl rfl (fun _ _=>rfl) (Nat.le_of_ble_eq_true rfl) (d7 w) hok rfl fun C hC h0=>?_
   simp (disch:=first|omega|exact f6|fail) only[WA,Nat.reduceEqDiff,Nat.reduceLT,↓reduceIte,reduceCtorEq,List.replicate,c8,hsz]
   all_goals try (exfalso;omega)
   refine k9 (by rw[hC];exact hsp) rfl rfl (fun _=>rfl) ?_
   simp (disch:=first|omega|exact f6|fail) only[WA,Nat.reduceEqDiff,Nat.reduceLT,↓reduceIte,reduceCtorEq,FZ,dl0,List.length_cons]
   refine k9 (by rw[hC];exact hsw) rfl rfl (fun _=>rfl) ?_
   simp (disch:=first|omega|exact f6|(simp only[i6]<;>omega)) only[WA,Nat.reduceEqDiff,Nat.reduceLT,↓reduceIte,reduceCtorEq]
   all_goals try (exfalso;omega)
   all_goals exact y4 h0 rfl
 ·rw[if_neg hbad] at hun
  have h102:(q0::qt).length≤102:=by omega
  obtain ⟨wa,wb,wc,wd,rfl⟩:∃ a b c d,W= [a,b,c,d]:=by
   have hW:W.length=4:=by omega
   rcases W with _|⟨a,_|⟨b,_|⟨c,_|⟨d,_|⟨e,r⟩⟩⟩⟩⟩<;>simp at hW
   exact ⟨a,b,c,d,rfl⟩
  have hnu:=YS w (n+6) wc (by have:=hwl2.2 wc (by simp);omega)
  have dl2:C8 [sD wa,sD wb,sD wc,sD wd] 2 none=some (m6 wc):=(rfl)
  rw[show ([wa,wb,wc,wd]:List (List UInt8))[2]! =wc from rfl] at hun
  unfold tS at hnu
  clear hbad hwl2
  generalize (I9 wc).getD 0=v at*
  generalize (I9 wc).isSome=vb at*
  refine A2 rfl rfl (fun _ _=>rfl) (Nat.le_of_ble_eq_true rfl) (d7 w) hok rfl fun C hC h0=>?_
  have hrn:C.E.rounds=A4:=by rw[hC,j5]
  simp only[List.length_cons] at h102
  simp (disch:=first|omega|exact f6|fail) only[WA,Nat.reduceEqDiff,Nat.reduceLT,↓reduceIte,reduceCtorEq,List.replicate,c8,hsz]
  all_goals try (exfalso;omega)
  refine k9 (by rw[hC];exact hsp) rfl rfl (fun _=>rfl) ?_
  simp (disch:=first|omega|exact f6|fail) only[WA,Nat.reduceEqDiff,Nat.reduceLT,↓reduceIte,reduceCtorEq,FZ,dl0,List.length_cons]
  refine k9 (by rw[hC];exact hsw) rfl rfl (fun _=>rfl) ?_
  simp (disch:=first|omega|exact f6|fail) only[WA,Nat.reduceEqDiff,Nat.reduceLT,Nat.reduceAdd,↓reduceIte,reduceCtorEq,List.map_cons,List.map_nil,List.length_cons,List.length_nil,tn2,dl2]
  all_goals try (exfalso;omega)
  refine a6 (by rw[hC];exact hnu.flat rfl rfl) ?_
  simp (disch:=first|exact f6|(simp only[i6]<;>omega)) only[WA,Nat.reduceEqDiff,Nat.reduceLT,Nat.reduceAdd,↓reduceIte,reduceCtorEq,List.replicate]
  all_goals try (exfalso;omega)
  obtain ⟨Q,hQ⟩:∃ Q,Q=q0::qt:=⟨_,rfl⟩
  have e1:sD q0::List.map sD qt=Q.map sD:=by rw[hQ];rfl
  have e2:qt.length+1=Q.length:=by rw[hQ];rfl
  have hmid:qt.dropLast.length=Q.length - 2:=by rw[List.length_dropLast];omega
  have hQj:∀ j,1≤j→j - 1<qt.dropLast.length→Q[j]! =qt.dropLast[j - 1]! :=fun j a b=>by
   rw[getElem!_pos qt.dropLast _ b,getElem!_pos Q j (by omega),List.getElem_dropLast]
   simp only[hQ]
   rw[List.getElem_cons,dif_neg (by omega)]
  have hQl:∀ j,j<Q.length→Q[j]!.length≤s.length:=fun j a=>hwl.2 _ (by rw[← hQ,getElem!_pos Q j a];exact List.getElem_mem a)
  rw[e1,e2]
  rw[e2] at h102
  clear e1 dl0 dl2 hsp hsw hnu hwl hwn hq0 hQ
  generalize qt.dropLast=mid at*
  refine s8 (fun m fr st=>∃ (j:Nat) (acc:List (Bool × List p7)),m=Q.length - j∧1≤j∧j - 1≤mid.length∧acc.length=j - 1∧uK acc∧aN 1 mid []=aN j (mid.drop (j - 1)) acc∧fr= [(0,m6 s),(2,.ptr 0 0),(4,.sl 2 Q.length (Q.map sD)),(8,.ptr 1 0),(9,.sc (.int .i64 j))]∧
   st=⟨[(2,.gro 42 2 false (J6 3 acc)),(1,.box 24 1 [.sc (.int .i64 v),.gr 2 2 acc.length]),(0,.box 24 1 [.sc (.int .i64 0),.sc (.slice none 0 0)])],3,0⟩) (Q.length - 1) ?_ ⟨_,_,gQ 1 24 1 1 42 2 rfl rfl (Nat.ne_of_beq_eq_false rfl),1,[],by omega,Nat.le_refl _,by omega,rfl,(fun r hr=>by cases hr),rfl,rfl,rfl⟩ ?_
  ·rw[hrn];unfold A4;omega
  rintro m fr st ⟨j,acc,rfl,hj1,hj,hal,hak,hinv,rfl,rfl⟩
  have hd:=P1 3 acc
  by_cases hlt:j - 1<mid.length
  ·have hmj:mid.drop (j - 1)=mid[j - 1]! ::mid.drop (j - 1+1):=by rw[List.drop_eq_getElem_cons hlt,getElem!_pos mid _ hlt]
   have hq:=hQj j hj1 hlt
   have hxl:=hQl j (by omega)
   have hpr:=bI6 w n Q[j]! (by omega)
   rw[hmj,aN,← hq] at hinv
   generalize hX:Q[j]! =X at*
   cases hR:T6 X with
   |none=>
    rw[hR] at hpr hinv
    simp only at hinv
    rw[hinv] at hun
    simp only at hun
    subst hun
    unfold tW at hpr
    simp only at hpr
    simp (disch:=first|omega|exact f6|fail) only[WA,Nat.reduceEqDiff,Nat.reduceLT,↓reduceIte,reduceCtorEq,TE,hX]
    all_goals try (exfalso;omega)
    refine k9 (by rw[hC];exact hpr) rfl rfl (fun _=>rfl) ?_
    simp (disch:=first|omega|exact f6|(simp only[i6]<;>omega)) only[WA,Nat.reduceEqDiff,Nat.reduceLT,Nat.reduceAdd,Int.reduceEq,↓reduceIte,reduceCtorEq,List.replicate]
    exact y4 h0 rfl
   |some y=>
    obtain ⟨b,L,k⟩:=y
    have hRK:=ZP hR
    rw[hR] at hpr hinv
    simp only at hinv
    unfold tW at hpr
    simp only at hpr
    by_cases hkj:k=(j:Int)
    case neg=>
     rw[if_neg hkj] at hinv
     rw[hinv] at hun
     simp only at hun
     subst hun
     simp (disch:=first|omega|exact f6|fail) only[WA,Nat.reduceEqDiff,Nat.reduceLT,↓reduceIte,reduceCtorEq,TE,hX]
     all_goals try (exfalso;omega)
     refine k9 (by rw[hC];exact hpr) rfl rfl (fun _=>rfl) ?_
     simp (disch:=first|omega|exact f6|(simp only[i6]<;>omega)) only[WA,Nat.reduceEqDiff,Nat.reduceLT,Nat.reduceAdd,↓reduceIte,reduceCtorEq,List.replicate,hkj]
     exact y4 h0 rfl
    rw[if_pos hkj] at hinv
    subst hkj
    have hsn:=zF 3 acc b L
    generalize J6 3 acc=AD at*
    simp (disch:=first|omega|exact f6|fail) only[WA,Nat.reduceEqDiff,Nat.reduceLT,↓reduceIte,reduceCtorEq,TE,hX]
    all_goals try (exfalso;omega)
    refine k9 (by rw[hC];exact hpr) rfl rfl (fun _=>rfl) ?_
    simp (disch:=first|omega|exact f6|(simp only[i6]<;>omega)) only[WA,Nat.reduceEqDiff,Nat.reduceLT,Nat.reduceAdd,↓reduceIte,reduceCtorEq,List.replicate,EZ]
    all_goals try (exfalso;omega)
    refine ⟨Q.length - (j+1),_,_,by omega,p9 [(5,2),(1,1),(0,0)] 3 h0 rfl rfl rfl rfl,j+1,acc++ [(b,L)],rfl,by omega,by omega,by simp;omega,fun r hr=>?_,?_,by rfl,?_⟩
    ·rcases List.mem_append.1 hr with hr|hr
     ·exact hak r hr
     ·rw[List.mem_singleton.1 hr];exact hRK
    ·rw[hinv,show j+1 - 1=j - 1+1 by omega];rfl
    ·rw[hsn,List.length_append];rfl
  ·have hje:j - 1=mid.length:=by omega
   rw[hje,List.drop_length,aN] at hinv
   rw[hinv] at hun
   simp only at hun
   have hch:=PS w n 2 3 (v,acc) (by simp only;omega) hak
   have hmj:((⟨(q8 (v,acc)).1.toArray⟩:ByteArray)=⟨s.toArray⟩)=((q8 (v,acc)).1=s):=X0 _ _
   have hpair:q8 (v,acc)=(s,0)↔(q8 (v,acc)).2=0∧(q8 (v,acc)).1=s:=⟨fun h=>by rw[h];exact ⟨rfl,rfl⟩,fun h=>Prod.ext h.2 h.1⟩
   have hsnap:∀ st:l9,f7 st.own 2=some (.gro 42 2 false (J6 3 acc))→J7 st.own [.agg [.sc (.int .i64 v),.gr 2 2 acc.length]]=some [G5 2 3 (v,acc)]:=fun st h=>by
    have:=eF h hd
    simp only[J7,w5] at this ⊢
    simp[this]
   have hfin:w5 ([(2,.gro 42 2 false (J6 3 acc))]:E7) (.gr 2 2 acc.length)=some (.sl 2 acc.length (J6 3 acc)):=eF rfl hd
   by_cases he:(q8 (v,acc)).2=0
   case neg=>
    replace hun:=hun.trans (if_neg fun h=>he (hpair.1 h).1)
    subst hun
    clear hpair
    generalize (q8 (v,acc)).2=e at*
    generalize (q8 (v,acc)).1=T at*
    simp (disch:=first|omega|exact f6|fail) only[WA,Nat.reduceEqDiff,Nat.reduceLT,↓reduceIte,reduceCtorEq,TE]
    all_goals try (exfalso;omega)
    refine a6 (by rw[hC];exact hch.flat rfl (hsnap _ rfl)) ?_
    simp (disch:=first|omega|exact f6|(simp only[i6]<;>omega)) only[WA,Nat.reduceEqDiff,Nat.reduceLT,↓reduceIte,reduceCtorEq,he]
    exact y4 h0 rfl
   by_cases ht:(q8 (v,acc)).1=s
   case neg=>
    replace hun:=hun.trans (if_neg fun h=>ht (hpair.1 h).2)
    subst hun
    rw[he] at hch
    rw[eq_false ht] at hmj
    clear hpair
    generalize (q8 (v,acc)).1=T at*
    simp (disch:=first|omega|exact f6|fail) only[WA,Nat.reduceEqDiff,Nat.reduceLT,↓reduceIte,reduceCtorEq,TE]
    all_goals try (exfalso;omega)
    refine a6 (by rw[hC];exact hch.flat rfl (hsnap _ rfl)) ?_
    simp (disch:=first|omega|exact f6|(simp only[i6]<;>omega)) only[WA,Nat.reduceEqDiff,Nat.reduceLT,↓reduceIte,reduceCtorEq,hmj]
    exact y4 h0 rfl
   ·replace hun:=hun.trans (if_pos (hpair.2 ⟨he,ht⟩))
    subst hun
    rw[he,ht] at hch
    clear hpair hmj
    simp (disch:=first|omega|exact f6|fail) only[WA,Nat.reduceEqDiff,Nat.reduceLT,↓reduceIte,reduceCtorEq,TE]
    all_goals try (exfalso;omega)
    refine a6 (by rw[hC];exact hch.flat rfl (hsnap _ rfl)) ?_
    simp (disch:=first|exact f6|(simp only[i6]<;>omega)) only[WA,Nat.reduceEqDiff,Nat.reduceLT,↓reduceIte,reduceCtorEq]
    exact GX (s:=2) (eF rfl hd) rfl (.inl (by decide)) h0 rfl
end
set_option maxHeartbeats 4000000
theorem ZQ {s:List UInt8} {c:kC} (h:cB s=some c):uK c.2∧c.2.length≤140737488351232:=by
 obtain ⟨h1,h2,h3,h4⟩:=bA (by rw[nM h]:(q8 c).2=0)
 refine ⟨fun r hr=>?_,by have:=(S9 h1).1;omega⟩
 obtain ⟨j,hj,rfl⟩:=List.mem_iff_getElem.1 hr
 have:=kU c.2 1 h2 j hj
 have h5:=(cZ (by rw[this]:(B7 c.2[j].1 c.2[j].2 (1+j)).2=0)).2.2.2
 have h6:=(Y2 h5).1
 exact ⟨HD h5,by omega⟩
theorem KJ (w:World) {C:D0} (hC:C.E=EN w 11) (h0:C.w0.nx=0) (c:kC) (s:List UInt8) (hs:s.length≤6000∨60000<s.length∧s.length≤61000) (T:List UInt8) (Te ce:Int) (d:kC) (Pe:Int)
  (hg:k8 (EN w 11) 4 [G5 3 1 c] (.sc (.bool false)) ⟨[],0,0⟩)
  (t1:k8 (EN w 11) 5 [G5 3 1 c] (.tup [m6 T,.sc (.int .i64 Te)]) ⟨[],0,0⟩)
  (t2:k8 (EN w 11) 6 [G5 3 1 c] (.tup [m6 T,.sc (.int .i64 Te)]) ⟨[],0,0⟩)
  (p1:k8 (EN w 11) 7 [m6 s] (.tup [G5 3 3 d,.sc (.int .i64 Pe)]) ⟨[],0,0⟩)
  (p2:k8 (EN w 11) 8 [m6 s] (.tup [G5 3 3 d,.sc (.int .i64 Pe)]) ⟨[],0,0⟩)
  (k1:k8 (EN w 11) 9 [G5 3 1 c] (.sc (.int .i64 ce)) ⟨[],0,0⟩)
  (k2:k8 (EN w 11) 10 [G5 3 1 c] (.sc (.int .i64 ce)) ⟨[],0,0⟩)
  (s1:k8 (EN w 11) 11 [G5 3 3 d,G5 3 3 d] (.sc (.bool true)) ⟨[],0,0⟩):
  gC C c3.code [] (R8 0 [G5 3 1 c,m6 s]) ⟨[],0,0⟩ (qL C c3.res (.sc (.bool true)) ⟨[],0,0⟩):=by
 have hsz:=n4 s
 simp (disch:=first|exact f6|fail) only[WA,Nat.reduceEqDiff,Nat.reduceLT,↓reduceIte,reduceCtorEq,c3,hsz]
 refine a6 (by rw[hC];exact hg.flat rfl rfl) ?_
 repeat' (first|(simp (disch:=first|omega|exact f6|fail) only[WA,Nat.reduceEqDiff,Nat.reduceLT,↓reduceIte,hsz])|(apply y9<;>intro _))
 all_goals try (exfalso;omega)
 all_goals refine a6 (by rw[hC];exact t1.flat rfl rfl) ?_
 all_goals repeat' (first|(simp (disch:=first|exact f6|fail) only[WA,Nat.reduceEqDiff,Nat.reduceLT,↓reduceIte]))
 all_goals refine a6 (by rw[hC];exact t2.flat rfl rfl) ?_
 all_goals repeat' (first|(simp (disch:=first|exact f6|fail) only[WA,Nat.reduceEqDiff,Nat.reduceLT,↓reduceIte]))
 all_goals refine k9 (by rw[hC];exact p1) rfl rfl (fun _=>rfl) ?_
 all_goals repeat' (first|(simp (disch:=first|exact f6|(simp only[i6]<;>omega)) only[WA,Nat.reduceEqDiff,Nat.reduceLT,Nat.reduceAdd,↓reduceIte,List.replicate]))
 all_goals refine k9 (by rw[hC];exact p2) rfl rfl (fun _=>rfl) ?_
 all_goals repeat' (first|(simp (disch:=first|exact f6|(simp only[i6]<;>omega)) only[WA,l6,p8,Nat.reduceEqDiff,Nat.reduceLT,Nat.reduceAdd,↓reduceIte,reduceCtorEq,List.replicate]))
 all_goals refine L5 (by rw[hC];exact k1.flat rfl rfl) ?_
 all_goals repeat' (first|(simp (disch:=fail) only[WA,l6,p8,Nat.reduceEqDiff,Nat.reduceLT,Nat.reduceAdd,Nat.reduceBEq,Int.reduceAdd,Int.reduceSub,Int.reduceLT,Int.reduceLE,Int.reduceEq,Int.reduceNeg,↓reduceIte,reduceCtorEq,List.replicate])|apply s7|((first|apply D5|apply y9|apply z6|apply D6|apply D4|apply z7)<;>intro _))
 all_goals refine L5 (by rw[hC];exact k2.flat rfl rfl) ?_
 all_goals repeat' (first|(simp (disch:=first|exact f6|(simp only[i6]<;>omega)) only[WA,l6,p8,Nat.reduceEqDiff,Nat.reduceLT,Nat.reduceAdd,↓reduceIte]))
 all_goals refine L5 (by rw[hC];exact s1.flat rfl rfl) ?_
 all_goals repeat' (first|(simp (disch:=first|exact f6|(simp only[i6]<;>omega)) only[WA,l6,p8,Nat.reduceEqDiff,Nat.reduceLT,↓reduceIte]))
 all_goals exact b7 rfl h0 rfl
theorem aJ8 (w:World) (c:kC) (hKc:uK c.2) (s:List UInt8) (hLc:c.2.length≤140737488351232) (hs:s.length≤140737488351232) {C:D0} (hC:C.E=EN w 11) (h0:C.w0.nx=0):
  gC C c3.code [] (R8 0 [G5 3 1 c,m6 s]) ⟨[],0,0⟩ (qL C c3.res (.sc (.bool true)) ⟨[],0,0⟩):=by
 have hsz:=n4 s
 have hg:=aE1 w 9 3 1 c hLc hKc
 cases hgc:UC c with
 |true=>
  rw[hgc] at hg
  simp (disch:=first|exact f6|fail) only[WA,Nat.reduceEqDiff,Nat.reduceLT,↓reduceIte,reduceCtorEq,c3,hsz]
  refine a6 (by rw[hC];exact hg.flat rfl rfl) ?_
  simp (disch:=first|exact f6|fail) only[WA,Nat.reduceEqDiff,Nat.reduceLT,↓reduceIte,hsz]
  all_goals try (exfalso;omega)
  all_goals exact b7 rfl h0 rfl
 |false=>
 rw[hgc] at hg
 by_cases hs2:s.length≤6000∨60000<s.length∧s.length≤61000
 case neg=>
  rcases (by omega:(6000<s.length∧s.length≤60000)∨61000<s.length) with h|h
  all_goals
   repeat' (first|(simp (disch:=first|exact f6|fail) only[WA,Nat.reduceEqDiff,Nat.reduceLT,↓reduceIte,reduceCtorEq,c3,hsz]))
   refine a6 (by rw[hC];exact hg.flat rfl rfl) ?_
   repeat' (first|(simp (disch:=first|omega|exact f6|fail) only[WA,Nat.reduceEqDiff,Nat.reduceLT,↓reduceIte,hsz]))
   all_goals try (exfalso;omega)
   all_goals exact b7 rfl h0 rfl
 clear hgc
 have p1:=bH5 w 0 s (by omega)
 have p2:=aX6 w 3 s (by omega)
 obtain ⟨d,Pe,hV,hd1,hd2⟩:∃ (d:kC) (Pe:Int),PA (cB s)= .tup [G5 3 3 d,.sc (.int .i64 Pe)]∧uK d.2∧d.2.length≤140737488351232:=by
  cases h:cB s with
  |none=>exact ⟨(0,[]),12,rfl,(fun x hx=>by cases hx),Nat.zero_le _⟩
  |some c=>exact ⟨c,0,rfl,(ZQ h).1,(ZQ h).2⟩
 rw[hV] at p1 p2
 exact KJ w hC h0 c s hs2 (q8 c).1 (q8 c).2 (M4 c) d Pe hg (WU w 2 3 1 c hLc hKc) (PS w 4 3 1 c hLc hKc) p1 p2 (bN9 w 4 3 1 c hLc hKc) (aW1 w 6 3 1 c hLc hKc) (QL w 9 3 3 3 3 d hd2 hd1)
end Go.Proofs.YtimmmnanllcfoaaGreatDoor
namespace Go.Proofs.YtimmmnanllcfoaaGreatDoor
open Go Go.Itp
open Go.ChangeShapes Go.WideShapes Go.ChangeAt Go.RowKit
set_option linter.unusedVariables false
set_option maxRecDepth 100000
set_option maxHeartbeats 4000000
theorem PV:reachBytes≤140737488351232:=by decide
abbrev bD6:={x:p7 // x.kind<256}
instance:Inhabited bD6:=⟨⟨sG,by decide⟩⟩
def bJ9 (x:bD6):List Value:= [.int .u8 x.1.kind,.bool x.1.purl,.int .i64 x.1.a,.int .i64 x.1.b]
theorem bR3:Tryz.prog.cellsOf 89=4:=by kernel_rfl
theorem aL2:Tryz.prog.bytesOf 89=24:=by kernel_rfl
theorem bF2 {H:Type} {enc:TypeId × Value→H} {W:World} {held:Bool} (cs:List Value) (n:Nat) (y:DataW H × List MemPlace) (hl:cs.length=4) (h:DataW.trod enc Tryz.prog W 0 (fun _=>true) held n 89 cs=some y):∃ x:bD6,cs=bJ9 x:=by
 obtain ⟨m,a0,a1,a2,a3,rfl,⟨y0,h0⟩,⟨y1,h1⟩,⟨y2,h2⟩,y3,h3⟩:=aN6 Tryz.underlying89 rfl rfl rfl rfl (by kernel_rfl) (by kernel_rfl) (by kernel_rfl) (by kernel_rfl) cs n y hl h
 obtain ⟨x0,k0,_,j0⟩:=DataW.trod_int Tryz.underlying5 h0
 obtain ⟨x1,k1⟩:=MH Tryz.underlying4 _ _ _ h1
 obtain ⟨x2,k2,_⟩:=DataW.trod_int Tryz.underlying3 h2
 obtain ⟨x3,k3,_⟩:=DataW.trod_int Tryz.underlying3 h3
 simp only[List.cons.injEq,and_true] at k0 k2 k3
 have b0:=wf8 j0
 obtain ⟨u0,rfl⟩:=Int.eq_ofNat_of_zero_le b0.1
 exact ⟨⟨⟨u0,x1,x2,x3⟩,by simp only;omega⟩,by rw[k0,k1,k2,k3];rfl⟩
theorem bE5:Tryz.prog.cellsOf 42=2:=by kernel_rfl
theorem WL:Tryz.prog.bytesOf 42=32:=by kernel_rfl
theorem bF1 {H:Type} {enc:TypeId × Value→H} {W:World} {held:Bool} (cs:List Value) (n:Nat) (y:DataW H × List MemPlace) (hl:cs.length=2) (h:DataW.trod enc Tryz.prog W 0 (fun _=>true) held n 42 cs=some y) (hsz:∀ m ∈ y.1.weights Tryz.prog 42,m≤reachBytes) (b o:Nat) (hc:∀ j,j<2→W.cell? ⟨b,o+j,none⟩=cs[j]?):
  ∃ a:Bool × List p7,(SU a.2∧a.2.length≤140737488351232)∧∀ j,j<2→∃ d u,(JP 1 a)[j]? =some d∧K4 W b (o+j)=some u∧u7 (BC (K4 W)) d u:=by
 obtain ⟨y0,y1,n,rfl,_,h0,h1⟩:=trod_struct2 Tryz.underlying42 h
 obtain ⟨a0,a1,rfl⟩:∃ a b,cs= [a,b]:=by
  rcases cs with _|⟨a,_|⟨b,_|⟨c,r⟩⟩⟩<;>simp at hl
  exact ⟨a,b,rfl⟩
 have h0:DataW.trod enc Tryz.prog W 0 (fun _=>true) held n 4 [a0]=some y0:=h0
 have h1:DataW.trod enc Tryz.prog W 0 (fun _=>true) held n 40 [a1]=some y1:=h1
 obtain ⟨x,rfl⟩:=MH Tryz.underlying4 _ _ _ h0
 have c0:=hc 0 (by decide)
 have c1:=hc 1 (by decide)
 obtain ⟨m,u,hu,hm,hlr⟩:=aW2 (α:=bD6) (g:=bJ9) (q:=4) (by decide) (fun a=>⟨rfl,fun c hc=>by simp[bJ9] at hc;rcases hc with rfl|rfl|rfl|rfl<;>rfl⟩) Tryz.underlying40 bR3 (by rw[aL2];decide) h1 (fun m hm=>hsz m (by simp only[DataW.weights,Tryz.underlying42,List.map_cons,List.map_nil,DataW.weightsEach,List.mem_append];exact .inr (.inl hm))) (fun cs n y hl hy=>bF2 cs n y hl hy) c1
 rw[aL2] at hlr
 have hr:=PV
 obtain ⟨l,hl,hK,hlen⟩:∃ l:List p7,A5 l=m.flatMap (fun a=>(bJ9 a).map D.sc)∧SU l∧l.length=m.length:=⟨m.map (·.1),by simp only[A5,List.flatMap_map];rfl,fun x hx=>by obtain ⟨a,_,rfl⟩:=List.mem_map.1 hx;exact a.2,by simp⟩
 rw[← hl,← hlen] at hm
 refine ⟨(x,l),⟨hK,by show l.length≤_;omega⟩,fun j hj=>?_⟩
 rcases (by omega:j=0∨j=1) with rfl|rfl
 ·exact ⟨_,_,rfl,nH c0 rfl,by simp only[u7,C2,and_self]⟩
 ·exact ⟨_,_,rfl,hu,hm⟩
theorem UR {H:Type} {enc:TypeId × Value→H} {W:World} {b:Nat} {held:Bool} {v:Value} {d:DataW H} {ps:List MemPlace} (hv:Value.okWide Tryz.prog W .any b 24 v) (h:DataW.Trod enc Tryz.prog W 0 (fun _=>true) held 24 v d ps)
  (hsz:∀ n ∈ d.weights Tryz.prog 24,n≤reachBytes):
  ∃ c:kC,b9 (BC (K4 W)) (G5 3 1 c) v∧r9 0 v= []∧uK c.2∧c.2.length≤reachBytes:=by
 obtain ⟨n,a0,a1,y0,y1,rfl,e0,e1,h0,h1,w0,w1⟩:=aT3 Tryz.underlying24 rfl rfl (by kernel_rfl) (by kernel_rfl) (by kernel_rfl) hv h hsz
 obtain ⟨z,k0,_,j0⟩:=DataW.trod_int Tryz.underlying3 h0
 simp only[List.cons.injEq,and_true] at k0
 subst k0
 obtain ⟨R,hR,hli,hlr,hP⟩:=PU (α:=Bool × List p7) (g:=JP 1) (q:=2) (by decide) (fun _=>rfl) Tryz.underlying22 bE5 (by rw[WL];decide) (fun a n c e=>by subst e;obtain ⟨u,hu⟩:=aG0 Tryz.underlying24 (i:=1) hv rfl;exact tV hu) h1 w1 (fun cs n y hl hy hw b o hc=>bF1 cs n y hl hy hw b o hc)
 rw[WL] at hlr
 refine ⟨(z,R),?_,?_,hP,by show R.length≤_;omega⟩
 ·rw[b9]
  refine ⟨[.int .i64 z,a1],rfl,?_⟩
  simp only[d8]
  exact ⟨_,_,rfl,.mksc rfl,_,_,rfl,hR,rfl⟩
 ·rw[bF9,kP,kP,hli]
  rfl
def jD:List (String × DataW Unit):= [("math/bits.deBruijn32tab",Rows.laid_math_bits_deBruijn32tab),("math/bits.deBruijn64tab",Rows.laid_math_bits_deBruijn64tab),("internal/strconv.uint64pow10",Rows.laid_internal_strconv_uint64pow10),("unicode/utf8.acceptRanges",Rows.laid_unicode_utf8_acceptRanges),("unicode/utf8.first",Rows.laid_unicode_utf8_first)]
theorem UI (os:Os) (args:Array Value):laidMetH Tryz.prog jD ((World.laidAll Tryz.prog os jD).forCall (fun _ _=>0) ⟨#[],args,[]⟩).memory:=by
 rw[MakeChecks.laidMetH_plain _ _ _ (by kernel_rfl)]
 exact laidMet_laidAll _ (by kernel_rfl) (by kernel_rfl)
theorem BP (os:Os):(World.laidAll Tryz.prog os jD).Shaped Tryz.prog:=World.shaped_of_ZipB (by kernel_rfl) (by kernel_rfl)
theorem aH7 {l:List TypeId} {t:TypeId} (hall:(l.all fun u=> !Tryz.prog.wantsStandIn u)=true) (h:t ∈ l):Tryz.prog.wantsStandIn t=false:=by
 have:=List.all_eq_true.1 hall t h
 simpa using this
theorem BE (os:Os) (started:os.Started) (H:Type) (enc:TypeId × Value→H):
  ReturnsInHanded {} Tryz.checked os 3 .any (fun w args=>(Rows.wordsChartsSpec.pre enc Tryz.prog Tryz.f3 [] false w args∧laidMetH Tryz.prog jD w)∧sizedMet enc Tryz.prog Tryz.f3 (OpenSpec.ofChange Rows.wordsChartsSpec) false w args)
   (Rows.wordsChartsSpec.post enc Tryz.prog Tryz.f3 false true false false):=by
 refine aE3 (C:=Tryz.checked) (X:=fun w _=>laidMetH Tryz.prog jD w) (fun _ _ _ hh h=>h.of_heap hh) own started (by kernel_rfl) Tryz.func3
  (ChangeSpec.witness_shaped (enc:=enc) (C:=Tryz.checked) (os:=os) (X:=fun w _=>laidMetH Tryz.prog jD w) false (World.laidAll Tryz.prog os jD) #[.agg #[.int .i64 0,.slice none 0 0],.string .empty] 8 (World.laidAll_os _ _ _) (BP os) (by kernel_rfl) (by kernel_rfl) (by kernel_rfl) (UI os _)) ?_
 intro W base args ds gs before hval0 hW hsz0 hL hsh
 have hval:∀ (j:Nat) t v,Tryz.f3.params[j]? =some t→args[j]? =some v→Value.okWide Tryz.prog W .any base t v:=hval0
 have hW':=hW
 obtain ⟨p,q,hA0,hV,rfl,hfz,hnd⟩:=hW
 have hA:DataW.TrodAll enc Tryz.prog W 0 (fun _=>true) true Tryz.f3.params.toList args.toList ds p:=hA0
 have hsz:(DataW.weightsEach Tryz.prog (Tryz.f3.params.toList++Rows.wordsChartsSpec.plain.varTypes Tryz.prog) (ds++gs)).all (· ≤reachBytes)=true:=hsz0
 rw[Tryz.params3] at hA hval hsz
 obtain ⟨v0,vs0,d0,ds0,p0,q0,hargs,rfl,rfl,h0,r0⟩:=trodAll_cons hA
 obtain ⟨v1,vs1,d1,ds1,p1,q1,rfl,rfl,rfl,h1,r1⟩:=trodAll_cons r0
 obtain ⟨rfl,rfl,rfl⟩:=trodAll_nil r1
 obtain rfl:args=#[v0,v1]:=by cases args;simp_all
 have hr:=PV
 obtain ⟨c0,hv0,hli0,hKc0,hl0⟩:=UR (hval 0 24 v0 rfl rfl) h0 (BF (j:=0) hsz rfl rfl)
 obtain ⟨s1,rfl,hs1⟩:=aT2 Tryz.underlying9 (hval 1 9 v1 rfl rfl) h1 (BF (j:=1) hsz rfl rfl)
 obtain ⟨x1,rfl⟩:∃ x:List UInt8,s1=⟨x.toArray⟩:=⟨s1.data.toList,by simp⟩
 rw[n4] at hs1
 have hLm:laidMet Tryz.prog jD W:=by rw[← MakeChecks.laidMetH_plain _ _ _ (by kernel_rfl)];exact hL
 have hmx:BZ W:=cell_of_shapedOpen_int (P:=Tryz.prog) (g:=1) (t:=3) (zero:=#[.int .i64 0]) hsh (of_decide_eq_true (by kernel_rfl)) (by kernel_rfl) rfl (by kernel_rfl) (by kernel_rfl) Tryz.underlying3
 have htab0:Lib.TabIs Tryz.prog W "internal/strconv.uint64pow10" .u64 Lib.pow10Tab:=aR9 hLm 2 rfl (g:=0) (t:=135) (e:=115) (k:= .u64) (m:=20) (by kernel_rfl) (by kernel_rfl) Tryz.underlying135 Tryz.underlying115 (by kernel_rfl) (by kernel_rfl) rfl
 obtain ⟨s',hbody⟩:=cB4 (old:=K4 W) (rounds:=A4) (fns:=fns) (prims:=PR W) (n:=11) (af:=c3) (xs:= [G5 3 1 c0,.sc (.string ⟨x1.toArray⟩)]) (xsI:= [v0,.string ⟨x1.toArray⟩]) (x:= .bool true) (Nat.le_of_ble_eq_true rfl)
  (by simp only[d8];exact ⟨_,_,rfl,hv0,_,_,rfl,.mksc rfl,rfl⟩) fun C hC hn=>aJ8 W c0 hKc0 x1 (by omega) (by omega) hC hn
 have hfn:fns 3=some c3:=rfl
 have hrv:r9 0 (.bool true)= []:=rfl
 refine (bT0 (W:=W) ⟨htab0,hmx⟩ (f:=3) (af:=c3) hfn (xs:= [v0,.string ⟨x1.toArray⟩]) (by simp only[kP,hli0];rfl) _ hbody hrv).mono fun e W' ⟨he,hbe⟩=>?_
 exact ⟨_,he,aS0 hW' rfl rfl (by kernel_rfl) (by kernel_rfl) Tryz.underlying4 hbe⟩
theorem KI:Rows.WordsChartsSaid:=
 OpenClaim.holds_of_wide 3 Tryz.f3 rfl rfl rfl rfl rfl rfl rfl ⟨rfl,rfl,rfl,rfl,rfl⟩ rfl rfl rfl rfl rfl (by kernel_rfl) Tryz.func3 (by kernel_rfl)
  (of_decide_eq_true (by kernel_rfl)) (by unfold Func.isWrapper;first|(rw[if_pos (by decide+kernel)];kernel_rfl)|(rw[if_neg (by decide+kernel)];exact ⟨rfl,rfl⟩))
  (fun os started H enc _=>BE os started H enc)
theorem wcharts_holds:Rows.WordsChartsCardSaid:=
 Claim7.holds_tied_plain_at .later [] [.data,.data,.data,.data,.pinned] true _ false
  KI (fun _ h=>by cases h) (by kernel_rfl) (fun _ h=>by cases h) wordsCharts_row_tie rfl ⟨rfl,rfl⟩ (by kernel_rfl) rfl
  (fun f fn hf hfn=>by
   obtain rfl:f=3:=Option.some.inj ((show Tryz.prog.funcNamed "raddle/raddlelaw41.WordsCharts"=some 3 by kernel_rfl).symm.trans hf)|>.symm
   obtain rfl:fn=Tryz.f3:=(Option.some.inj (Tryz.func3.symm.trans hfn)).symm
   exact ⟨by kernel_rfl,fun j t ht=>aH7 (l:= [24,9]) (by kernel_rfl) (by rw[Tryz.params3] at ht;simpa using Array.mem_of_getElem? ht)⟩)
  (by kernel_rfl)
#print axioms wcharts_holds
end Go.Proofs.YtimmmnanllcfoaaGreatDoor
