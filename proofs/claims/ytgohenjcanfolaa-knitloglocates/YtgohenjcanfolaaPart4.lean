/- What is proved: the law KnitlogLocates returns true for every input.
   Texts: V19, V20, V21, Shell, Shell2, Shell3, V22, V23, V30, SP, V31, V24, V25, V26, VV, V52, V27, V28, V32, V33, V29, V40, V34, V35, V36, V41, V37, V38, V39, V42, V43, V44, V45, V46, V47, V48, V51, V57, V50, V53, V58, V59.
-/
import Derived.Test.YtgohenjcanfolaaPart3
import Derived.ChangeSame
import Derived.ChangeReads
import Derived.ChangeSlices
import Derived.SliceStrings
import Derived.ChangeShapes
import Derived.WideShapes
import Derived.ProofKit
import Derived.OpenShut
import Derived.SizedLaws
import Derived.WalkSmall
import Derived.Lib.LaidTab
import Derived.Sort.Grow
import Derived.Shelf.Strconv.Itoa3
import Derived.Lib.AtoiAll
import Derived.Lib.AtoiErrMem
import Derived.Lib.Replace
import Derived.Lib.ItoaNum
import Derived.Lib.Atoi
import Derived.Lib.AtoiTie
import Derived.Lib.Join
import Derived.HandedShaped
import Derived.Shelf.Vars
namespace Go.Itp
set_option linter.unusedVariables false
set_option linter.constructorNameAsVariable false
def bI6 (k n:Nat):Option Obj→Option D
 |some (.row _ e _ _ l)=>if k+n*e≤l.length then some (.sl 0 n ((l.drop k).take (n*e))) else none
 |_=>none
def bI5 (s n:Nat):Option Obj→Option D
 |some (.gro _ e _ l)=>if l.length=n*e∧s ≠ 0∧s ≠ 1∧e ≠ 0 then some (.sl s n l) else none
 |_=>none
theorem UQ (H:D6) (o k n c:Nat):aL H (.ref o k n c)=bI6 k n (i7 H o):=by
 simp only[aL]
 cases i7 H o with
 |none=>rfl
 |some ob=>cases ob<;>rfl
theorem aL7 (H:D6) (s o n:Nat):aL H (.gr s o n)=bI5 s n (i7 H o):=by
 simp only[aL]
 cases i7 H o with
 |none=>rfl
 |some ob=>cases ob<;>rfl
theorem MW (n t e:Nat) (g z:Bool) (l:List D) (h:l.length=n*e):bI6 0 n (some (.row t e g z l))=some (.sl 0 n l):=by
 simp only[bI6]
 rw[if_pos (by omega),List.drop_zero,List.take_of_length_le (by omega)]
theorem MU (s n t e:Nat) (z:Bool) (l:List D) (hs0:s ≠ 0) (hs1:s ≠ 1) (he:e ≠ 0) (h:l.length=n*e):bI5 s n (some (.gro t e z l))=some (.sl s n l):=by
 simp only[bI5]
 rw[if_pos ⟨h,hs0,hs1,he⟩]
theorem QE (H:D6) (x:Value):aL H (.sc x)=some (.sc x):=(rfl)
theorem aL8 (H:D6) (s n:Nat) (l:List D) (h:yL (.sl s n l)=true):aL H (.sl s n l)=some (.sl s n l):=by simp only[aL,h,if_true]
abbrev YQ:=Option (Nat × List D × List Nat)
def S4 (H:D6) (e:Nat) (y:V):YQ:=(R6 y).bind fun m=>(K7 H e m y).map fun r=>(m,r.1,r.2)
def cH (H:D6) (e k n:Nat):Option Obj→YQ
 |some (.row _ _ _ _ l)=>if k+n*e≤l.length then some (n,(l.drop k).take (n*e),[]) else none
 |some (.gro _ _ _ l)=>if k+n*e≤l.length∧n ≠ 0∧e ≠ 0 then some (n,(l.drop k).take (n*e),[]) else none
 |some (.box _ _ l)=>if k+n*e≤l.length then (X5 H ((l.drop k).take (n*e))).map fun ds=>(n,ds,jF ((l.drop k).take (n*e))) else none
 |none=>none
def aV6 (e n:Nat):Option Obj→YQ
 |some (.gro _ _ _ l)=>if l.length=n*e∧e ≠ 0 then some (n,l,[]) else none
 |_=>none
theorem pZ (H:D6) (e o k n c:Nat):S4 H e (.ref o k n c)=cH H e k n (i7 H o):=by
 simp only[S4,KA,Option.bind_some,K7]
 cases i7 H o with
 |none=>rfl
 |some ob=>
  cases ob with
  |row t e' g z l=>simp only[cH];split<;>rfl
  |gro t e' z l=>simp only[cH];split<;>rfl
  |box t e' l=>
   simp only[cH]
   split
   ·cases X5 H ((l.drop k).take (n*e))<;>rfl
   ·rfl
theorem MI (H:D6) (e s o n:Nat):S4 H e (.gr s o n)=aV6 e n (i7 H o):=by
 simp only[S4,aR7,Option.bind_some,K7]
 cases i7 H o with
 |none=>rfl
 |some ob=>
  cases ob with
  |gro t e' z l=>
   simp only[aV6,Nat.le_refl,true_and]
   split
   ·rename_i h;rw[List.take_of_length_le (by omega)];rfl
   ·rfl
  |_=>rfl
theorem MJ (H:D6) (e s n:Nat) (l:List D) (h:l.length=n*e):S4 H e (.sl s n l)=some (n,l,[]):=by
 simp only[S4,aR8,Option.bind_some,bI2 H e s n l h,Option.map_some]
theorem CK (H:D6) (e s n c:Nat) (l:List D) (h:l.length=n*e):S4 H e (.slk s n c l)=some (n,l,[]):=by
 simp only[S4,aE0,Option.bind_some,aV7 H e s n c l h,Option.map_some]
theorem CJ (H:D6) (e n c:Nat):S4 H e (.sc (.slice none n c))=some (0,[],[]):=(rfl)
theorem CL (H:D6) (s:ByteArray):S4 H 1 (.sc (.string s))=some (s.size,s.data.toList.map (fun b=> .sc (.int .u8 b.toNat)),[]):=by
 simp only[S4,aE1,Option.bind_some,aV8,Option.map_some]
theorem CI (H:D6) (e n t e':Nat) (g z:Bool) (l:List D) (h:l.length=n*e):cH H e 0 n (some (.row t e' g z l))=some (n,l,[]):=by
 simp only[cH]
 rw[if_pos (by omega),List.drop_zero,List.take_of_length_le (by omega)]
def OJ (d:Option D) (fz:List Nat):YQ:=d.map fun d=>(1,[d],fz)
theorem qM (d:D) (fz:List Nat):OJ (some d) fz=some (1,[d],fz):=(rfl)
theorem CH (H:D6) (t e':Nat) (v:V):cH H 1 0 1 (some (.box t e' [v]))=OJ (aL H v) (rZ v):=by
 simp only[cH,OJ]
 rw[if_pos (by simp)]
 simp only[List.drop_zero,Nat.mul_one,List.take_succ_cons,List.take_zero,X5,jF,List.append_nil]
 cases aL H v<;>rfl
theorem MH (e n t e':Nat) (z:Bool) (l:List D) (h:l.length=n*e) (he:e ≠ 0):aV6 e n (some (.gro t e' z l))=some (n,l,[]):=by
 simp only[aV6]
 rw[if_pos ⟨h,he⟩]
theorem RX (o k n c:Nat):rZ (.ref o k n c)= [o]:=(rfl)
theorem aB1 (s o n:Nat):rZ (.gr s o n)= [o]:=(rfl)
theorem aB3 (s n:Nat) (l:List D):rZ (.sl s n l)= []:=(rfl)
theorem aB2 (x:Value):rZ (.sc x)= []:=(rfl)
def tC (st:n4) (t e b s o n:Nat) (ob:Option Obj) (src:YQ):Option (V × n4):=
 match ob,src with
 |some (.gro t' e' z l),some (m,new,fz)=>
  if P1 new && !Nat.beq e 0 && B0 st.ro st.own fz then (if Nat.ble st.ro o && !z && (Nat.beq s 2|| !Nat.beq n 0) && Nat.beq t' t && Nat.beq e' e && Nat.beq l.length (n*e) && Nat.ble (n+m) r5 && Nat.ble ((n+m)*b) r5 && !m8 o fz then
   some (.gr 2 st.next (n+m),⟨(st.next,.gro t e false (l++new))::D1 fz (J4 o st.own),st.next+1,st.ro⟩) else none) else none
 |_,_=>none
theorem NC (st:n4) (t e b s o n:Nat) (y:V):rU st t e b (.gr s o n) y=tC st t e b s o n (i7 st.own o) (S4 st.own e y):=by
 simp only[rU,S4]
 cases R6 y with
 |none=>simp only[Option.bind_none,tC];cases i7 st.own o with|none=>rfl|some ob=>cases ob<;>rfl
 |some m=>
  simp only[Option.bind_some]
  cases K7 st.own e m y with
  |none=>simp only[Option.bind_none,Option.map_none,tC];cases i7 st.own o with|none=>rfl|some ob=>cases ob<;>rfl
  |some r=>
   simp only[Option.bind_some,Option.map_some]
   cases i7 st.own o with
   |none=>simp only[tC];split<;>rfl
   |some ob=>cases ob<;>simp only[tC]<;>split<;>rfl
theorem HA (H:D6) (nx ro t e b s o n m:Nat) (l new:List D) (fz:List Nat) (hs:s=2∨n ≠ 0) (hro:ro≤o) (he:e ≠ 0) (hl:l.length=n*e) (hok:P1 new=true) (hrow:B0 ro H fz=true) (hof:m8 o fz=false) (h1:n+m≤1099511627776) (h2:(n+m)*b≤1099511627776):
  tC ⟨H,nx,ro⟩ t e b s o n (some (.gro t e false l)) (some (m,new,fz))=some (.gr 2 nx (n+m),⟨(nx,.gro t e false (l++new))::D1 fz (J4 o H),nx+1,ro⟩):=by
 simp only[tC,hok,hrow]
 rw[if_pos (by simp[vE.2 he]),if_pos]
 have hb:Nat.ble ro o=true:=by rw[Nat.ble_eq];exact hro
 have h3:Nat.ble (n+m) r5=true:=by rw[Nat.ble_eq];exact h1
 have h4:Nat.ble ((n+m)*b) r5=true:=by rw[Nat.ble_eq];exact h2
 have h5:Nat.beq l.length (n*e)=true:=j7.2 hl
 have h6:Nat.beq t t=true:=j7.2 rfl
 have h7:Nat.beq e e=true:=j7.2 rfl
 have h8:(Nat.beq s 2|| !Nat.beq n 0)=true:=by
  rw[Bool.or_eq_true,Bool.not_eq_true',vE]
  exact hs.imp j7.2 id
 simp only[hb,h3,h4,h5,h6,h7,h8,hof,Bool.not_false,Bool.and_self]
theorem ND (H:D6) (nx t e b s o n:Nat) (y:V):kW H nx t e b (.gr s o n) y=none:=by
 simp only[kW]
 cases R6 y with
 |none=>rfl
 |some m=>
  simp only[Option.bind_some]
  cases K7 H e m y with
  |none=>rfl
  |some r=>
   simp only[Option.bind_some]
   split
   ·rfl
   ·split<;>rfl
def DP (nx t e b:Nat) (src:YQ):VO:=
 match src with
 |some (m,new,fz)=>if Nat.beq m 0 then some (.sc (.slice none 0 0),none,[]) else if P1 new && !Nat.beq e 0 then (if Nat.ble m r5 && Nat.ble (m*b) r5 then some (.gr 2 nx m,some (.gro t e false new),fz) else none) else none
 |none=>none
theorem tD (nx t e b m:Nat) (new:List D) (fz:List Nat) (hm:m ≠ 0) (he:e ≠ 0) (hok:P1 new=true) (h1:m≤1099511627776) (h2:m*b≤1099511627776):DP nx t e b (some (m,new,fz))=some (.gr 2 nx m,some (.gro t e false new),fz):=by
 simp only[DP]
 have h3:Nat.ble m r5=true:=by rw[Nat.ble_eq];exact h1
 have h4:Nat.ble (m*b) r5=true:=by rw[Nat.ble_eq];exact h2
 rw[if_neg (by rw[j7];exact hm),if_pos (by simp[hok,vE.2 he]),if_pos (by simp[h3,h4])]
theorem qL (nx t e b:Nat) (new:List D) (fz:List Nat):DP nx t e b (some (0,new,fz))=some (.sc (.slice none 0 0),none,[]):=(rfl)
def Z0 (nx t e b n c o k:Nat) (base src:YQ):VO:=
 match src with
 |some (m,new,fz)=>if Nat.beq m 0 then some (.ref o k n c,none,[]) else if P1 new && !Nat.beq e 0 then (if Nat.blt c t8 && Nat.blt c (n+m) && Nat.ble (n+m) r5 && Nat.ble ((n+m)*b) r5 then
   (match base with|some (_,cs,fb)=>if P1 cs then some (.gr 2 nx (n+m),some (.gro t e false (cs++new)),fb++fz) else none|none=>none) else none) else none
 |none=>none
theorem qK (nx t e b n c o k m q:Nat) (cs new:List D) (fb fz:List Nat) (hm:m ≠ 0) (he:e ≠ 0) (hok:P1 new=true) (hcs:P1 cs=true) (hc:c<n+m) (h1:n+m≤1099511627776) (h2:(n+m)*b≤1099511627776):
  Z0 nx t e b n c o k (some (q,cs,fb)) (some (m,new,fz))=some (.gr 2 nx (n+m),some (.gro t e false (cs++new)),fb++fz):=by
 simp only[Z0]
 have h3:Nat.ble (n+m) r5=true:=by rw[Nat.ble_eq];exact h1
 have h4:Nat.ble ((n+m)*b) r5=true:=by rw[Nat.ble_eq];exact h2
 have h5:Nat.blt c t8=true:=by rw[Nat.blt_eq];unfold t8;omega
 have h6:Nat.blt c (n+m)=true:=by rw[Nat.blt_eq];exact hc
 rw[if_neg (by rw[j7];exact hm),if_pos (by simp[hok,vE.2 he]),if_pos (by simp[h3,h4,h5,h6])]
 simp only[hcs,if_true]
theorem mL (nx t e b n c o k:Nat) (base:YQ) (new:List D) (fz:List Nat):Z0 nx t e b n c o k base (some (0,new,fz))=some (.ref o k n c,none,[]):=(rfl)
theorem CU (H:D6) (nx t e b:Nat) (y:V):kW H nx t e b (.sc (.slice none 0 0)) y=DP nx t e b (S4 H e y):=by
 simp only[kW,S4]
 cases R6 y with
 |none=>rfl
 |some m=>
  simp only[Option.bind_some]
  cases K7 H e m y with
  |none=>rfl
  |some r=>rfl
theorem CV (H:D6) (nx t e b o k n c:Nat) (y:V):kW H nx t e b (.ref o k n c) y=Z0 nx t e b n c o k (cH H e k n (i7 H o)) (S4 H e y):=by
 have hs:(K7 H e n (.ref o k n c)).map (fun r=>(n,r.1,r.2))=cH H e k n (i7 H o):=by
  have:=pZ H e o k n c
  simp only[S4,KA,Option.bind_some] at this
  exact this
 simp only[kW,S4]
 cases R6 y with
 |none=>rfl
 |some m=>
  simp only[Option.bind_some]
  cases K7 H e m y with
  |none=>rfl
  |some r=>
   simp only[Option.bind_some,Option.map_some,Z0,← hs]
   split
   ·rfl
   ·split
    ·split
     ·cases K7 H e n (.ref o k n c) with
      |none=>rfl
      |some q=>rfl
     ·rfl
    ·rfl
def GE (st:n4) (o k t e:Nat) (g:Bool) (l:List D) (fz:List Nat) (d:Option D):Option (V × n4):=d.bind fun d=>if Nat.blt k l.length && !m8 o fz && B0 st.ro st.own fz then some (.tup [],⟨B5 (D1 fz st.own) o (.row t e g false (l.set k d)),st.next,st.ro⟩) else none
theorem rQ (st:n4) (o k t e:Nat) (g:Bool) (l:List D) (fz:List Nat) (d:D) (h:k<l.length) (h2:m8 o fz=false) (h3:B0 st.ro st.own fz=true):GE st o k t e g l fz (some d)=some (.tup [],⟨B5 (D1 fz st.own) o (.row t e g false (l.set k d)),st.next,st.ro⟩):=by
 simp only[GE,Option.bind_some]
 rw[if_pos (by simp[h,h2,h3])]
def QC (st:n4) (n o k:Nat) (v:V) (ob:Option Obj):Option (V × n4):=
 ((K4 v).bind fun cs=>if Nat.beq cs.length n then (if !Nat.ble st.ro o then none else match ob with
    |some (.box t e l)=>if cs.all bD then (C8 l k cs).map fun l=>(⟨B5 st.own o (.box t e l),st.next,st.ro⟩:n4) else none
    |some (.row t e g z l)=>if z||m8 o (jF cs)|| !B0 st.ro st.own (jF cs) then none else (X5 st.own cs).bind fun ds=>(C8 l k ds).map fun l=>(⟨B5 (D1 (jF cs) st.own) o (.row t e g false l),st.next,st.ro⟩:n4)
    |some (.gro t e z l)=>if z||m8 o (jF cs)||cs.isEmpty|| !B0 st.ro st.own (jF cs) then none else (X5 st.own cs).bind fun ds=>(C8 l k ds).map fun l=>(⟨B5 (D1 (jF cs) st.own) o (.gro t e false l),st.next,st.ro⟩:n4)
    |none=>none) else none).map fun st=>(V.tup [],st)
theorem wY (st:n4) (n o k:Nat) (v:V):aL6 st n (.ptr o k) v=QC st n o k v (i7 st.own o):=(rfl)
theorem MK (st:n4) (o k t e:Nat) (l:List V) (v:V) (hro:st.ro≤o) (hv:bD v=true) (hk:k<l.length):QC st 1 o k v (some (.box t e l))=some (.tup [],⟨B5 st.own o (.box t e (l.set k v)),st.next,st.ro⟩):=by
 simp only[QC,eV v hv,Option.bind_some,List.length_singleton]
 rw[if_pos (show Nat.beq 1 1=true from rfl),if_neg (by simp only[Bool.not_eq_true,yF];exact hro)]
 simp only[List.all_cons,hv,List.all_nil,Bool.and_true,if_true]
 rw[X3 _ _ _ hk]
 rfl
theorem ML (st:n4) (o t e n:Nat) (l m:List V) (hro:st.ro≤o) (hm:m.all bD=true) (hn:m.length=n) (hl:m.length=l.length):QC st n o 0 (.agg m) (some (.box t e l))=some (.tup [],⟨B5 st.own o (.box t e m),st.next,st.ro⟩):=by
 simp only[QC,K4,hm,if_true,Option.bind_some]
 rw[if_pos (j7.2 hn),if_neg (by simp only[Bool.not_eq_true,yF];exact hro)]
 rw[nU _ _ _ (by omega)]
 simp only[List.take_zero,List.nil_append,Nat.zero_add,Option.map_some]
 rw[List.drop_eq_nil_of_le (by omega),List.append_nil]
theorem wV (st:n4) (o k t e:Nat) (g:Bool) (l:List D) (x:Value) (hro:st.ro≤o) (hk:k<l.length):QC st 1 o k (.sc x) (some (.row t e g false l))=some (.tup [],⟨B5 st.own o (.row t e g false (l.set k (.sc x))),st.next,st.ro⟩):=by
 simp only[QC,K4,Option.bind_some,List.length_singleton]
 rw[if_pos (show Nat.beq 1 1=true from rfl),if_neg (by simp only[Bool.not_eq_true,yF];exact hro)]
 simp only[jF,rZ,List.append_nil,m8,B0,Bool.not_true,Bool.or_false]
 rw[if_neg (by simp)]
 simp only[X5,aL,Option.bind_some,Option.map_some]
 rw[X3 _ _ _ hk,s5]
 rfl
theorem wU (st:n4) (o k t e:Nat) (l:List D) (x:Value) (hro:st.ro≤o) (hk:k<l.length):QC st 1 o k (.sc x) (some (.gro t e false l))=some (.tup [],⟨B5 st.own o (.gro t e false (l.set k (.sc x))),st.next,st.ro⟩):=by
 simp only[QC,K4,Option.bind_some,List.length_singleton]
 rw[if_pos (show Nat.beq 1 1=true from rfl),if_neg (by simp only[Bool.not_eq_true,yF];exact hro)]
 simp only[jF,rZ,List.append_nil,m8,B0,Bool.not_true,Bool.or_false,List.isEmpty_cons]
 rw[if_neg (by simp)]
 simp only[X5,aL,Option.bind_some,Option.map_some]
 rw[X3 _ _ _ hk,s5]
 rfl
theorem CM (st:n4) (o k t e:Nat) (g:Bool) (l:List D) (v:V) (hro:st.ro≤o) (hv:bD v=true):QC st 1 o k v (some (.row t e g false l))=GE st o k t e g l (rZ v) (aL st.own v):=by
 simp only[QC,eV v hv,Option.bind_some,List.length_singleton]
 rw[if_pos (show Nat.beq 1 1=true from rfl),if_neg (by simp only[Bool.not_eq_true,yF];exact hro)]
 simp only[jF,List.append_nil,Bool.false_or,X5,GE]
 cases aL st.own v with
 |none=>split<;>rfl
 |some d=>
  simp only[Option.bind_some,Option.map_some]
  cases h1:m8 o (rZ v)<;>cases h2:B0 st.ro st.own (rZ v)
  ·simp
  ·simp only[Bool.not_true,Bool.or_self,Bool.false_eq_true,if_false,Bool.not_false,Bool.and_true]
   by_cases hk:k<l.length
   ·rw[X3 _ _ _ hk,if_pos (by rw[Nat.blt_eq];exact hk)];rfl
   ·rw[if_neg (by rw[Nat.blt_eq];exact hk)]
    have:C8 l k [d]=none:=by
     clear h1 h2
     induction l generalizing k with
     |nil=>cases k<;>rfl
     |cons x l ih=>
      cases k with
      |zero=>simp at hk
      |succ k=>simp only[C8];rw[ih k (by simpa using hk)];rfl
    rw[this];rfl
  ·simp
  ·simp
theorem bd {a b:Bool} (h:a=b):a=b:=h
theorem f8 {a b:Bool} (h:a=b:=by with_unfolding_all rfl):a=b:=h
set_option linter.unusedVariables false
set_option linter.constructorNameAsVariable false
section
variable {C:C6} {st:n4} {fr:D0}
theorem aD (t ty e:Nat) (h:i7 fr t=some (.sc (.slice none 0 0))):L2 C fr st (lC fr t (.gr 2 st.next 0)) ⟨(st.next,.gro ty e false [])::st.own,st.next+1,st.ro⟩:=
 (NV fr ty e).trans (S6 h (LY (t:=ty) (e:=e) (z:=false) (Nat.lt_succ_self _)))
theorem oF (o t' e' k ty e:Nat) {l:List V} (h:i7 st.own o=some (.box t' e' l)) (hk:l[k]? =some (.sc (.slice none 0 0))) (ho:o ≠ st.next):
  L2 C fr st fr ⟨B5 ((st.next,.gro ty e false [])::st.own) o (.box t' e' (l.set k (.gr 2 st.next 0))),st.next+1,st.ro⟩:=by
 refine (NV fr ty e).trans (YH (C:=C) (fr:=fr) (st:=⟨(st.next,.gro ty e false [])::st.own,st.next+1,st.ro⟩) (v:= .sc (.slice none 0 0)) (v':= .gr 2 st.next 0) ?_ hk (LY (t:=ty) (e:=e) (z:=false) (Nat.lt_succ_self _)))
 simp only
 rw[m7,if_neg ho]
 exact h
theorem o7 (ρ:List (Nat × Nat)) (k:Nat) {fr':D0} {st':n4} (h0:C.w0.nx=0) (hr:st.ro=0) (hk:BI 0 0 k ρ=true) (hf:vX ρ fr=fr') (hs:(⟨vY ρ st.own ρ,k,0⟩:n4)=st'):L2 C fr st fr' st':=by
 have:=xX (C:=C) (st:=st) ρ k (fr:=fr) (by omega) (by rw[h0,hr];exact hk)
 rw[hr,hs,hf] at this
 exact this
theorem aI9 (ρ:List (Nat × Nat)):vX ρ []= []:=(rfl)
theorem XF (ρ:List (Nat × Nat)) (t:Nat) (v:V) (r:D0):vX ρ ((t,v)::r)=(t,X9 ρ v)::vX ρ r:=(rfl)
end
theorem n5.at {E:D9} {f:FuncId} {xs:List V} {v:V} {st1:n4} (h:n5 E f xs v st1) (hf:w9 v=true) (st:n4) (hs:Q6 st.own xs=some xs):I5 E f st xs v:=h.flat hf hs
theorem n5.of {C:C6} {E:D9} (hC:C.E=E) {f:FuncId} {xs:List V} {v:V} {st1:n4} (h:n5 E f xs v st1) (hf:w9 v=true) (st:n4) (hs:Q6 st.own xs=some xs):I5 C.E f st xs v:=by
 rw[hC];exact h.flat hf hs
theorem wD {H:D6} {v:V} (hcl:Cl H v) (hb:∀ o ob,i7 H o=some ob→(match ob with| .box _ _ _=>false|_=>true)=true) (hv:∀ o ob,i7 H o=some ob→o ∈ V7 v):kJ H v:=
 ⟨hcl,(fun o t e l h=>by have:=hb o _ h;cases this),(fun o ob h _=>VR.root o (hv o ob h))⟩
theorem pR {v:V} (hcl:Cl [] v):kJ [] v:=⟨hcl,(fun o t e l h=>by cases h),(fun o ob h=>by cases h)⟩
theorem mK {α:Type} {i o:Nat} {v u:α} (h:i7 [(i,v)] o=some u):o=i∧u=v:=by
 rw[m7] at h
 split at h
 ·rename_i e;cases h;exact ⟨e,rfl⟩
 ·cases h
theorem aJ3 {t e n s:Nat} {z:Bool} {l:List D} (h:n=0↔l= []):kJ [(0,.gro t e z l)] (.gr s 0 n):=by
 refine wD ?_ (fun o ob ho=>by rw[(mK ho).2]) (fun o ob ho=>by rw[(mK ho).1];simp[V7])
 simp only[Cl]
 exact ⟨t,e,z,l,rfl,h⟩
theorem XI {t e n k c:Nat} {g z:Bool} {l:List D}:kJ [(0,.row t e g z l)] (.ref 0 k n c):=by
 refine wD ?_ (fun o ob ho=>by rw[(mK ho).2]) (fun o ob ho=>by rw[(mK ho).1];simp[V7])
 simp only[Cl]
 exact ⟨_,rfl,rfl⟩
end Go.Itp
namespace Go.Itp
set_option linter.unusedVariables false
set_option linter.constructorNameAsVariable false
def rC (s:Nat):Nat:=if Nat.beq s 0 then 0 else 3
theorem SZ:rC 0=0:=(rfl)
theorem jK:rC 3=3:=(rfl)
theorem TB:rC 2=3:=(rfl)
theorem TA:rC 1=3:=(rfl)
theorem DT (k:IntKind) (z:Int) (d n:Nat) (h0:0≤z) (h1:z≤n):v7 (some (.int k z)) d n=some z.toNat:=by
 simp only[v7]
 rw[if_pos ⟨h0,h1⟩]
theorem DF (e s n:Nat) (l:List D) (k j:IntKind) (a b:Int) (h0:0≤a) (h1:a≤b) (h2:b≤n) (h4:s ≠ 1∨n ≠ 0):aC e (some (.int k a)) (some (.int j b)) none (.sl s n l)=some (.sl (rC s) (b.toNat - a.toNat) (partD l (a.toNat*e) (b.toNat*e))):=by
 simp only[aC]
 rw[if_pos (Y2.2 h4)]
 simp only[pY,DT j b n n (by omega) h2,Option.bind_some,DT k a 0 b.toNat h0 (by omega)]
 rfl
theorem VB (e s n:Nat) (l:List D) (k:IntKind) (a:Int) (h0:0≤a) (h1:a≤n) (h4:s ≠ 1∨n ≠ 0):aC e (some (.int k a)) none none (.sl s n l)=some (.sl (rC s) (n - a.toNat) (partD l (a.toNat*e) (n*e))):=by
 simp only[aC]
 rw[if_pos (Y2.2 h4)]
 have h5:pY n (some (.int k a)) none=some (a.toNat,n):=by
  have h6:v7 none n n=some n:=rfl
  simp only[pY,h6,DT k a 0 n h0 h1,Option.bind_some]
 rw[h5]
 rfl
theorem VA (e s n:Nat) (l:List D) (j:IntKind) (b:Int) (h1:0≤b) (h2:b≤n) (h4:s ≠ 1∨n ≠ 0):aC e none (some (.int j b)) none (.sl s n l)=some (.sl (rC s) b.toNat (partD l 0 (b.toNat*e))):=by
 simp only[aC]
 rw[if_pos (Y2.2 h4)]
 have h5:pY n none (some (.int j b))=some (0,b.toNat):=by
  simp only[pY,DT j b n n h1 h2,Option.bind_some]
  rfl
 rw[h5]
 simp only[Option.map_some,Nat.zero_mul,Nat.sub_zero]
 rfl
theorem BK {α:Type} (f:α→D) (l:List α) (a b:Nat):partD (l.map f) a b=((l.drop a).take (b - a)).map f:=by
 simp[partD,List.map_drop,List.map_take]
theorem sI (k j:IntKind) (a b:Int):mmV true (.sc (.int k a)) (.sc (.int j b))=some (.sc (.int k (max a b))):=by
 have h:(if b>a then b else a)=max a b:=by omega
 simp only[mmV,if_true,h]
theorem FH (k j:IntKind) (a b:Int):mmV false (.sc (.int k a)) (.sc (.int j b))=some (.sc (.int k (min a b))):=by
 have h:(if b<a then b else a)=min a b:=by omega
 simp only[mmV,Bool.false_eq_true,if_false,h]
end Go.Itp
namespace Go.Itp
open Go.RowKit (Below)
open Go.ChangeShapes Go.WideShapes
def qU (P:Program):Nat→TypeId→Bool
 |0,_=>false
 |k+1,t=>match P.underlying t with
  |some .bool=>true
  |some (.int _)=>true
  |some .string=>true
  |some (.slice e)=> !(P.cellsOf e==0) && qU P k e
  |some (.struct fs)=>fs.toList.all fun f=>qU P k f.type
  |some (.array _ e)=>qU P k e
  |_=>false
section
variable {H:Type} {enc:TypeId × Value→H} {P:Program} {w:World} {base:Nat} {held:Bool} {sp:Nat→Bool}
theorem US:∀ (k n:Nat) (t:TypeId) (cs:List Value) (x:DataW H × List MemPlace),qU P k t=true→DataW.trod enc P w base (fun _=>true) held n t cs=some x→(∀ p ∈ x.2,sp p.block=true)→
  DataW.trod enc P w base sp held n t cs=some x
 |0,_,_,_,_,h,_,_=>by simp[qU] at h
 |k+1,0,_,_,_,_,h,_=>by simp[DataW.trod] at h
 |k+1,n+1,t,cs,x,hf,h,hs=>by
  have ih:=fun t cs x=>US k n t cs x
  rw[DataW.trod_step] at h ⊢
  unfold DataW.trodStep at h ⊢
  unfold qU at hf
  split at h
  case h_8 e a len cap hu=>
   rw[hu] at hf
   simp only[Bool.and_eq_true,Bool.not_eq_true',beq_eq_false_iff_ne] at hf
   simp only at h ⊢
   split at h
   ·rename_i hc
    rw[if_pos hc]
    simp only[Option.map_eq_some_iff,Option.bind_eq_some_iff,if_true] at h ⊢
    obtain ⟨elems,he,rest,hrest,rfl⟩:=h
    have hl1:elems.length=len:=by simpa using mapM_some_length he
    have hl2:rest.length=cap - len:=by simpa using mapM_some_length hrest
    have one:∀ (a:Addr) (y:DataW H × List MemPlace),y ∈ elems++rest→(w.cells? base a (P.cellsOf e)).bind (DataW.trod enc P w base (fun _=>true) held n e)=some y→
      (w.cells? base a (P.cellsOf e)).bind (DataW.trod enc P w base sp held n e)=some y:=by
     intro a y hy hv
     simp only[Option.bind_eq_some_iff] at hv ⊢
     obtain ⟨c,hc1,hc2⟩:=hv
     exact ⟨c,hc1,ih _ _ _ hf.2 hc2 fun p hp=>hs p (by simp only[List.mem_append,List.mem_flatMap];exact Or.inr ⟨y,by simpa using hy,hp⟩)⟩
    refine ⟨elems,mapM_carry he fun i y _ hy hv=>one _ y (by simp[hy]) hv,rest,?_,rfl⟩
    by_cases hz:elems.length+rest.length=0
    ·have:rest= []:=List.length_eq_zero_iff.1 (by omega)
     subst this
     have:cap - len=0:=by simpa using hl2.symm
     rw[this]
     split<;>simp
    ·have hb:sp a.block=true:=by
      have:=hs (.cell a.block (a.off+0)) (by
       simp only[List.mem_append]
       left
       refine MemPlace.mem_row.2 ⟨0,?_,rfl⟩
       exact Nat.mul_pos (by omega) (Nat.pos_of_ne_zero hf.1))
      simpa [MemPlace.block] using this
     rw[if_pos hb]
     exact mapM_carry hrest fun j y _ hy hv=>one _ y (by simp[hy]) hv
   ·cases h
  case h_9 fs hu=>
   rw[hu] at hf
   simp only[List.all_eq_true] at hf
   split at h
   ·rename_i hc
    rw[if_pos hc]
    simp only[Option.map_eq_some_iff] at h ⊢
    obtain ⟨xs,hx,rfl⟩:=h
    exact ⟨xs,mapM_carry hx (fun f y hfm hy hv=>ih _ _ _ (hf f hfm) hv (fun p hp=>hs p (List.mem_flatMap.2 ⟨y,hy,hp⟩))),rfl⟩
   ·cases h
  case h_10 m e hu=>
   rw[hu] at hf
   split at h
   ·rename_i hc
    rw[if_pos hc]
    simp only[Option.map_eq_some_iff] at h ⊢
    obtain ⟨xs,hx,rfl⟩:=h
    exact ⟨xs,mapM_carry hx (fun f y _ hy hv=>ih _ _ _ hf hv (fun p hp=>hs p (List.mem_flatMap.2 ⟨y,hy,hp⟩))),rfl⟩
   ·cases h
  all_goals first|exact h|(exfalso;simp_all;done)|(simp_all;done)
theorem xK (k:Nat) {W W':World} (hb:Below W.heap.size W W'):∀ (ts:List TypeId) (vs:List Value) (ds:List (DataW H)) (ps:List MemPlace),ts.all (qU P k)=true→
  DataW.TrodAll enc P W base (fun _=>true) held ts vs ds ps→(∀ p ∈ ps,p.block<W.heap.size)→(∀ p ∈ ps,sp p.block=true)→DataW.TrodAll enc P W' base sp held ts vs ds ps
 | [],[],[],_,_,h,_,_=>h
 |t::ts,v::vs,d::ds,ps,hf,⟨p,q,⟨n,h1⟩,h2,e⟩,hl,hs=>by
  subst e
  simp only[List.all_cons,Bool.and_eq_true] at hf
  refine ⟨p,q,⟨n,?_⟩,xK k hb ts vs ds q hf.2 h2 (fun x hx=>hl x (by simp[hx])) (fun x hx=>hs x (by simp[hx])),rfl⟩
  refine US k n _ _ _ hf.1 (DataW.trod_carry n _ _ _ h1 fun x hx=>hb.same (hl x ?_)) fun x hx=>hs x ?_
  ·simp only at hx;simp[hx]
  ·simp only at hx;simp[hx]
 | [],_::_,_,_,_,h,_,_=>by simp[DataW.TrodAll] at h
 | [],[],_::_,_,_,h,_,_=>by simp[DataW.TrodAll] at h
 |_::_,[],_,_,_,h,_,_=>by simp[DataW.TrodAll] at h
 |_::_,_::_,[],_,_,h,_,_=>by simp[DataW.TrodAll] at h
theorem aD9 {f:Func} {s:ChangeSpec} {apart fresh handsOn again:Bool} {W W':World} {args:Array Value} {ds gs:List (DataW H)} {before:List MemPlace} {rt:TypeId}
  (hW:DataW.Whole enc P f.params.toList s.vars apart W args.toList ds gs before) (hv:s.vars= []) (hfn:s.fn H ds={results:= [.lit (.bool true)],args:=ds})
  (hf:f.params.toList.all (qU P 20)=true) (hr:f.resultTypes=#[rt]) (hrt:P.underlying rt=some .bool) (hb:Below W.heap.size W W'):
  s.post enc P f apart fresh handsOn again W args (.bool true) W':=by
 have hlt:∀ p ∈ before,p.block<W.heap.size:=fun p hp=>hW.lt p hp
 have hW':=hW
 obtain ⟨pa,pv,hA,hV,hps,hz,hn⟩:=hW
 rw[hv] at hV
 obtain ⟨rfl,rfl⟩:=trodVars_none hV
 rw[List.append_nil] at hps
 subst hps
 have hd:s.fn H (ds++ [])={results:= [.lit (.bool true)],args:=ds}:=by rw[List.append_nil];exact hfn
 have hres:∀ (b:Nat) (sp:Nat→Bool) (hd:Bool),DataW.TrodAll enc P W' b sp hd f.resultTypes.toList ((Value.bool true).resultList f.resultTypes.size) (s.fn H (ds++ [])).results []:=by
  intro b sp hd'
  rw[hr,hd]
  exact ⟨[],[],⟨1,by simp[DataW.trod,hrt,Value.cells]⟩,rfl,rfl⟩
 have hargs:∀ sp:Nat→Bool,(∀ p ∈ before,sp p.block=true)→DataW.TrodAll enc P W' 0 sp true f.params.toList args.toList (s.fn H (ds++ [])).args before:=fun sp hsp=>by rw[hd];exact xK 20 hb _ _ _ _ hf hA hlt hsp
 have hold:∀ p ∈ before,(fun b=>decide (b<W.heap.size)) p.block=true:=fun p hp=>by simpa using hlt p hp
 have hvars:∀ sp,DataW.TrodVars enc P W' sp s.vars (s.fn H (ds++ [])).vars []:=fun sp=>by rw[hv,hd];rfl
 refine ⟨ds,[],before,[],before,[],hW',hres _ _ _,hargs _ hold,hvars _,World.keptBut_mono (fun p hp=>⟨hp,?_⟩) (hb.frame (· ∈ before)),fun _=>?_⟩
 ·exact Or.inr (Or.inl hp)
 ·refine ⟨?_,_,_,([]++before)++ [],⟨[]++before,[],trodAll_append (hargs _ (fun _ _=>rfl)) (hres _ _ _),hvars _,rfl,?_,?_⟩,?_⟩
  ·intro j t r h1 h2
   rw[hr] at h1 h2
   have hj:j=0:=by
    rcases Nat.lt_or_ge j 1 with h|h
    ·omega
    ·rw[Array.getElem?_eq_none (by simpa using h)] at h1;cases h1
   subst hj
   simp at h1 h2
   subst h1
   have h2':r= .bool true:=by
    have:(Value.bool true).resultList 1= [.bool true]:=rfl
    rw[this] at h2;simpa using h2.symm
   subst h2'
   exact Go.RowKit.okWide_bool_mk hrt true
  ·intro b off hp
   have hin:MemPlace.cell b off ∈ before:=by simpa using hp
   rw[hb.frozen (hlt _ hin)]
   exact hz b off hin
  ·intro ha;simpa using hn ha
  ·intro p hp _;simpa using hp
end
end Go.Itp
namespace Go.Itp
open Go.ChangeShapes Go.WideShapes
def R3:Value→Value
 | .slice (some ⟨b,o,some k⟩) 0 0=> .complex .f32 b (yH o k)
 |v=>v
theorem Rd.of_map {α:Type} {old:Nat→Nat→Option Value} {h:m0} {f:α→Value} {v:Value} {l:List α} (r:Rd old h (fun x:Value=>x) v (l.map f)):Rd old h f v l:=by
 rcases r.is with ⟨a,c,rfl,h1,h2⟩|⟨h1,h2⟩
 ·refine ⟨Or.inl ⟨a,c,by simp,by simpa using h1,?_⟩⟩
  rcases h2 with ⟨rfl,h2⟩|⟨ad,rfl,h2,h3⟩
  ·exact Or.inl ⟨rfl,by simpa using h2⟩
  ·exact Or.inr ⟨ad,rfl,h2,fun k hk=>by have:=h3 k (by simpa using hk);simpa using this⟩
 ·exact ⟨Or.inr ⟨by simpa using h1,h2⟩⟩
section
variable {H:Type} {enc:TypeId × Value→H} {P:Program} {W:World} {base:Nat} {held:Bool}
theorem aI5 {t e:TypeId} {fuel:Nat} {v:Value} {x:DataW H × List MemPlace} (ht:P.underlying t=some (.slice e)) (hc:P.cellsOf e=1) (hby:0<P.bytesOf e)
  (h:DataW.trod enc P W base (fun _=>true) held fuel t [v]=some x) (hsz:∀ n ∈ x.1.weights P t,n≤reachBytes)
  (habs:∀ (c:Value) (n:Nat) (y:DataW H × List MemPlace),DataW.trod enc P W base (fun _=>true) held n e [c]=some y→∀ b o,W.cell? ⟨b,o,none⟩=some c→L0 W b o=some (R3 c)):
  ∃ cs:List Value,(∀ h,Rd (L0 W) h (fun x:Value=>x) (R3 v) (cs.map R3))∧cL (R3 v)=0∧(∀ c ∈ cs,∃ n y,DataW.trod enc P W base (fun _=>true) held n e [c]=some y∧∀ m ∈ y.1.weights P e,m≤reachBytes)∧cs.length*P.bytesOf e≤reachBytes:=by
 rcases DataW.trod_slice ht h with ⟨h1,_⟩|⟨a,len,cap,elems,rest,n,rfl,h1,rfl,hb,hl,hm,hlen,hel,hsp,_⟩
 ·simp only[List.cons.injEq,and_true] at h1
  subst h1
  exact ⟨[],fun h=>Rd.nil,rfl,by simp,by simp⟩
 ·simp only[List.cons.injEq,and_true] at h1
  subst h1
  obtain ⟨hr1,hr2⟩:=hsp rfl
  have hmax:cap*P.bytesOf e≤reachBytes:=by
   have:=hsz ((elems.length+rest.length)*P.bytesOf e) (by simp[DataW.weights,ht])
   rwa [show elems.length+rest.length=cap by omega] at this
  have hcap:cap≤cap*P.bytesOf e:=Nat.le_mul_of_pos_right _ hby
  have hbig:reachBytes<t8:=by decide
  have hone:∀ i,i<len→∃ c y,W.cell? (a.add i)=some c∧DataW.trod enc P W base (fun _=>true) held n e [c]=some y∧elems[i]? =some y:=fun i hi=>by
   have:=hel i hi
   rw[hc,Nat.mul_one,List.getElem?_eq_getElem (by omega)] at this
   simp only[Option.bind_eq_some_iff] at this
   obtain ⟨cs,h2,h3⟩:=this
   unfold World.cells? at h2
   split at h2
   ·simp only[List.range_one,List.mapM_cons,List.mapM_nil] at h2
    cases hq:W.cell? ((a.add i).add 0) with
    |none=>rw[hq] at h2;cases h2
    |some c=>
     rw[hq] at h2
     have e0:(a.add i).add 0=a.add i:=rfl
     rw[e0] at hq
     have:cs= [c]:=by simpa using h2.symm
     subst this
     exact ⟨c,elems[i],hq,h3,List.getElem?_eq_getElem (by omega)⟩
   ·cases h2
  by_cases hz:cap=0
  ·have hl0:len=0:=by omega
   subst hz hl0
   refine ⟨[],fun h=>?_,?_,by simp,by simp⟩
   ·obtain ⟨b,o,sp⟩:=a
    cases sp with
    |none=>exact ⟨Or.inl ⟨some ⟨b,o,none⟩,0,rfl,by simp,Or.inr ⟨⟨b,o,none⟩,rfl,fun i hi=>by simp[tJ] at hi,fun k hk=>by simp at hk⟩⟩⟩
    |some k=>exact Rd.odd _ _ _
   ·obtain ⟨b,o,sp⟩:=a
    cases sp<;>rfl
  ·have habsv:R3 (.slice (some a) len cap)= .slice (some a) len cap:=by
    obtain ⟨b,o,sp⟩:=a
    cases sp with
    |none=>rfl
    |some k=>
     unfold R3
     split
     ·rename_i heq
      simp only[Value.slice.injEq] at heq
      exact (hz heq.2.2).elim
     ·rfl
   have hspot:a.spot=none:=by
    have hcell:∃ c,W.cell? (a.add 0)=some c:=by
     by_cases h0:0<len
     ·obtain ⟨c,_,h,_⟩:=hone 0 h0;exact ⟨c,h⟩
     ·have:=hr2 0 (by omega)
      rw[hc,Nat.mul_one,List.getElem?_eq_getElem (by omega)] at this
      simp only[Option.bind_eq_some_iff] at this
      obtain ⟨cs,h2,_⟩:=this
      unfold World.cells? at h2
      split at h2
      ·simp only[List.range_one,List.mapM_cons,List.mapM_nil] at h2
       cases hq:W.cell? ((a.add (len+0)).add 0) with
       |none=>rw[hq] at h2;cases h2
       |some c=>exact ⟨c,by rw[show len+0=0 by omega] at hq;exact hq⟩
      ·cases h2
    obtain ⟨c,hcell⟩:=hcell
    rw[show a.add 0=a from rfl] at hcell
    cases hsp:a.spot with
    |none=>rfl
    |some s=>
     simp only[World.cell?] at hcell
     split at hcell
     ·simp[hsp] at hcell
     ·cases hcell
   rw[habsv]
   obtain ⟨b,o,sp⟩:=a
   simp only at hspot
   subst hspot
   let cs:=(List.range len).map fun i=>(W.cell? ⟨b,o+i,none⟩).getD undef
   have hcs:∀ i (hi:i<len),W.cell? ⟨b,o+i,none⟩=some (cs[i]?.getD undef)∧∃ y,DataW.trod enc P W base (fun _=>true) held n e [cs[i]?.getD undef]=some y∧elems[i]? =some y:=fun i hi=>by
    obtain ⟨c,y,h2,h3,h4⟩:=hone i hi
    rw[add_plain] at h2
    have:cs[i]?.getD undef=c:=by simp[cs,hi,h2]
    rw[this]
    exact ⟨h2,y,h3,h4⟩
   have hlc:cs.length=len:=by simp[cs]
   refine ⟨cs,fun h=>⟨Or.inl ⟨some ⟨b,o,none⟩,cap,by simp[hlc],?_,Or.inr ⟨⟨b,o,none⟩,rfl,fun i hi=>by simp[tJ] at hi,fun k hk=>?_⟩⟩⟩,rfl,fun c hc'=>?_,?_⟩
   ·unfold y8
    rw[if_pos (by rw[Nat.blt_eq];omega)]
    simpa [hlc] using hl
   ·have hk':k<len:=by simpa [hlc] using hk
    obtain ⟨h2,y,h3,_⟩:=hcs k hk'
    have:=habs _ _ _ h3 _ _ h2
    simp only[cK,A7]
    rw[this]
    have hkc:k<cs.length:=by omega
    simp[hkc]
   ·obtain ⟨i,hi,rfl⟩:=List.getElem_of_mem hc'
    obtain ⟨_,y,h3,h4⟩:=hcs i (by omega)
    refine ⟨n,y,by simpa [hi] using h3,fun m hm'=>hsz m ?_⟩
    have hmem:y ∈ elems:=List.mem_of_getElem? h4
    simp only[DataW.weights,ht,List.mem_cons,List.mem_append]
    right;left
    clear hsz
    have:∀ l:List (DataW H × List MemPlace),y ∈ l→m ∈ DataW.weightsAll P e (l.map (·.1)):=by
     intro l
     induction l with
     |nil=>intro h;cases h
     |cons z l ih=>
      intro hz'
      simp only[List.map_cons,DataW.weightsAll,List.mem_append]
      rcases List.mem_cons.1 hz' with rfl|hz'
      ·exact Or.inl hm'
      ·exact Or.inr (ih hz')
    exact this elems hmem
   ·rw[hlc]
    exact Nat.le_trans (Nat.mul_le_mul_right _ hl) hmax
theorem iS {b o:Nat} {c:Value} (h:W.cell? ⟨b,o,none⟩=some c) (hid:s7 0 c= []) (ha:R3 c=c):L0 W b o=some (R3 c):=by
 rw[ha];exact PK h hid
theorem aE5 {α:Type} (f:α→Value):∀ (cs:List Value),(∀ c ∈ cs,∃ a,c=f a∧R3 (f a)=f a)→∃ l:List α,cs.map R3=l.map f∧cs=l.map f
 | [],_=>⟨[],rfl,rfl⟩
 |c::cs,h=>by
  obtain ⟨a,rfl,ha⟩:=h c (by simp)
  obtain ⟨l,h1,h2⟩:=aE5 f cs fun c hc=>h c (by simp[hc])
  exact ⟨a::l,by simp[ha,h1],by simp[h2]⟩
theorem aI4 {t e:TypeId} {k:IntKind} {fuel:Nat} {v:Value} {x:DataW H × List MemPlace} (ht:P.underlying t=some (.slice e)) (he:P.underlying e=some (.int k)) (hc:P.cellsOf e=1) (hby:0<P.bytesOf e)
  (h:DataW.trod enc P W base (fun _=>true) held fuel t [v]=some x) (hsz:∀ n ∈ x.1.weights P t,n≤reachBytes):
  ∃ l:List Int,(∀ h,Rd (L0 W) h (Value.int k) (R3 v) l)∧cL (R3 v)=0∧(∀ z ∈ l,(Lit.int k z).wf=true)∧l.length*P.bytesOf e≤reachBytes:=by
 obtain ⟨cs,h1,h2,h3,h4⟩:=aI5 ht hc hby h hsz fun c n y hy b o hcell=>by
  obtain ⟨s,h5,_⟩:=DataW.trod_int he hy
  simp only[List.cons.injEq,and_true] at h5
  subst h5
  exact iS hcell rfl rfl
 have hstr:∀ c ∈ cs,∃ z:Int,c= .int k z∧(Lit.int k z).wf=true:=fun c hc'=>by
  obtain ⟨n,y,hy,_⟩:=h3 c hc'
  obtain ⟨s,h5,h6,h7⟩:=DataW.trod_int he hy
  simp only[List.cons.injEq,and_true] at h5
  exact ⟨s,h5,h7⟩
 obtain ⟨l,hl1,hl2⟩:=aE5 (Value.int k) cs fun c hc'=>by
  obtain ⟨s,h5,_⟩:=hstr c hc'
  exact ⟨s,h5,rfl⟩
 refine ⟨l,fun h=>Rd.of_map (by rw[← hl1];exact h1 h),h2,fun z hz=>?_,by rw[hl2] at h4;simpa using h4⟩
 obtain ⟨s,h5,h6⟩:=hstr (.int k z) (by rw[hl2];exact List.mem_map_of_mem hz)
 cases h5
 exact h6
theorem VL {v:Value} (h:v= .slice none 0 0∨∃ a n c,v= .slice (some a) n c):R3 v= .slice none 0 0∨(∃ a n c,R3 v= .slice (some a) n c)∨∃ k b n,R3 v= .complex k b n:=by
 rcases h with rfl|⟨a,n,c,rfl⟩
 ·exact .inl rfl
 ·unfold R3
  split
  ·exact .inr (.inr ⟨_,_,_,rfl⟩)
  ·exact .inr (.inl ⟨a,n,c,rfl⟩)
theorem aI6 {t e q:TypeId} {k:IntKind} {fuel:Nat} {v:Value} {x:DataW H × List MemPlace} (ht:P.underlying t=some (.slice e)) (he:P.underlying e=some (.slice q)) (hq:P.underlying q=some (.int k)) (hc:P.cellsOf e=1) (hby:0<P.bytesOf e)
  (hcq:P.cellsOf q=1) (hbq:0<P.bytesOf q) (h:DataW.trod enc P W base (fun _=>true) held fuel t [v]=some x) (hsz:∀ n ∈ x.1.weights P t,n≤reachBytes):
  ∃ (rs:List Value) (L:List (List Int)),(∀ h,Rd (L0 W) h (fun x:Value=>x) (R3 v) rs)∧cL (R3 v)=0∧rs.length=L.length∧rs.length*P.bytesOf e≤reachBytes∧
   ∀ j,j<L.length→(∀ h,Rd (L0 W) h (Value.int k) rs[j]! L[j]!)∧cL rs[j]! =0∧(∀ z ∈ L[j]!,(Lit.int k z).wf=true)∧L[j]!.length*P.bytesOf q≤reachBytes∧(rs[j]! = .slice none 0 0∨(∃ a n c,rs[j]! = .slice (some a) n c)∨∃ k b n,rs[j]! = .complex k b n):=by
 obtain ⟨cs,h1,h2,h3,h4⟩:=aI5 ht hc hby h hsz fun c n y hy b o hcell=>by
  rcases DataW.trod_slice he hy with ⟨h5,_⟩|⟨a,len,cap,elems,rest,n',rfl,h5,rfl,hb,hl,hm,hlen,hel,hsp,_⟩
  ·simp only[List.cons.injEq,and_true] at h5
   subst h5
   exact iS hcell rfl rfl
  ·simp only[List.cons.injEq,and_true] at h5
   subst h5
   obtain ⟨hr1,hr2⟩:=hsp rfl
   obtain ⟨b',o',sp⟩:=a
   cases sp with
   |none=>exact iS hcell rfl rfl
   |some s=>
    by_cases hz:cap=0
    ·have hl0:len=0:=by omega
     subst hz hl0
     exact WY hcell
    ·exfalso
     have hcell0:∃ c,W.cell? (⟨b',o',some s⟩:Addr)=some c:=by
      by_cases h0:0<len
      ·have:=hel 0 h0
       rw[hcq,Nat.mul_one,List.getElem?_eq_getElem (by omega)] at this
       simp only[Option.bind_eq_some_iff] at this
       obtain ⟨cs,h6,_⟩:=this
       unfold World.cells? at h6
       split at h6
       ·simp only[List.range_one,List.mapM_cons,List.mapM_nil] at h6
        cases hq':W.cell? (((⟨b',o',some s⟩:Addr).add 0).add 0) with
        |none=>rw[hq'] at h6;cases h6
        |some c=>exact ⟨c,hq'⟩
       ·cases h6
      ·have:=hr2 0 (by omega)
       rw[hcq,Nat.mul_one,List.getElem?_eq_getElem (by omega),show len+0=0 by omega] at this
       simp only[Option.bind_eq_some_iff] at this
       obtain ⟨cs,h6,_⟩:=this
       unfold World.cells? at h6
       split at h6
       ·simp only[List.range_one,List.mapM_cons,List.mapM_nil] at h6
        cases hq':W.cell? (((⟨b',o',some s⟩:Addr).add 0).add 0) with
        |none=>rw[hq'] at h6;cases h6
        |some c=>exact ⟨c,hq'⟩
       ·cases h6
     obtain ⟨c,hcell0⟩:=hcell0
     simp only[World.cell?] at hcell0
     split at hcell0
     ·simp at hcell0
     ·cases hcell0
 have each:∀ cs:List Value,(∀ c ∈ cs,∃ n y,DataW.trod enc P W base (fun _=>true) held n e [c]=some y∧∀ m ∈ y.1.weights P e,m≤reachBytes)→
   ∃ L:List (List Int),cs.length=L.length∧∀ j,j<L.length→(∀ h,Rd (L0 W) h (Value.int k) (cs.map R3)[j]! L[j]!)∧cL (cs.map R3)[j]! =0∧(∀ z ∈ L[j]!,(Lit.int k z).wf=true)∧L[j]!.length*P.bytesOf q≤reachBytes∧((cs.map R3)[j]! = .slice none 0 0∨(∃ a n c,(cs.map R3)[j]! = .slice (some a) n c)∨∃ k b n,(cs.map R3)[j]! = .complex k b n):=by
  intro cs
  induction cs with
  |nil=>intro _;exact ⟨[],rfl,fun j hj=>by simp at hj⟩
  |cons c cs ih=>
   intro hall
   obtain ⟨L,hL1,hL2⟩:=ih fun c hc=>hall c (by simp[hc])
   obtain ⟨n,y,hy,hw⟩:=hall c (by simp)
   obtain ⟨l,l1,l2,l3,l4⟩:=aI4 he hq hcq hbq hy hw
   have l5:R3 c= .slice none 0 0∨(∃ a n c',R3 c= .slice (some a) n c')∨∃ k b n,R3 c= .complex k b n:=VL (by
    rcases DataW.trod_slice he hy with ⟨h5,_⟩|⟨a,len,cap,_,_,_,_,h5,_⟩
    ·exact .inl (by simpa using h5)
    ·exact .inr ⟨a,len,cap,by simpa using h5⟩)
   refine ⟨l::L,by simp[hL1],fun j hj=>?_⟩
   cases j with
   |zero=>exact ⟨by simpa using l1,by simpa using l2,by simpa using l3,by simpa using l4,by simpa using l5⟩
   |succ j=>simpa using hL2 j (by simpa using hj)
 obtain ⟨L,hL1,hL2⟩:=each cs h3
 exact ⟨cs.map R3,L,h1,h2,by simp[hL1],by simpa using h4,hL2⟩
theorem UG {t e q:TypeId} {k:IntKind} {fuel:Nat} {v:Value} {x:DataW H × List MemPlace} (ht:P.underlying t=some (.slice e)) (he:P.underlying e=some (.slice q)) (hq:P.underlying q=some (.int k)) (hc:P.cellsOf e=1) (hby:0<P.bytesOf e)
  (hcq:P.cellsOf q=1) (hbq:0<P.bytesOf q) (h:DataW.trod enc P W base (fun _=>true) held fuel t [v]=some x) (hsz:∀ n ∈ x.1.weights P t,n≤reachBytes):
  ∃ (rs:List Value) (L:List (List Int)),(∀ h,Rd (L0 W) h (fun x:Value=>x) (R3 v) rs)∧cL (R3 v)=0∧rs.length=L.length∧rs.length*P.bytesOf e≤reachBytes∧
   ∀ j,j<L.length→(∀ h,Rd (L0 W) h (Value.int k) rs[j]! L[j]!)∧cL rs[j]! =0∧(∀ z ∈ L[j]!,(Lit.int k z).wf=true)∧L[j]!.length*P.bytesOf q≤reachBytes:=by
 obtain ⟨rs,L,h1,h2,h3,h4,h5⟩:=aI6 ht he hq hc hby hcq hbq h hsz
 exact ⟨rs,L,h1,h2,h3,h4,fun j hj=>⟨(h5 j hj).1,(h5 j hj).2.1,(h5 j hj).2.2.1,(h5 j hj).2.2.2.1⟩⟩
end
section
variable {H:Type} {enc:TypeId × Value→H} {P:Program} {W:World} {base:Nat} {held:Bool}
theorem KK {r:Reach} {b:Nat} {u:TypeId} {a:Addr} {n c:Nat} (h:Cell.okWide P W r b u (.slice (some a) n c)):a.spot=none:=by
 unfold Cell.okWide at h
 split at h
 all_goals first|(rename_i heq;cases heq;done)|skip
 unfold Cell.ok at h
 split at h
 all_goals first|(rename_i heq;cases heq;done)|skip
 ·rename_i e a' len cap _ heq
  cases heq
  exact h.2.2.2.1
 ·exact h.elim
end
section
variable {H:Type} {enc:TypeId × Value→H} {P:Program} {W:World} {base:Nat} {held:Bool}
theorem PJ {t:TypeId} {b:Nat} {v:Value} (ht:∀ fs,P.underlying t ≠ some (.struct fs)) (ht':∀ n e,P.underlying t ≠ some (.array n e)) (hv:Value.okWide P W .any b t v):Cell.okWide P W .any b t v:=by
 unfold Value.okWide at hv
 split at hv
 ·rename_i fs h;exact (ht fs h).elim
 ·rename_i n e h;exact (ht' n e h).elim
 ·exact hv
theorem xY {ts:List TypeId} {ds:List (DataW H)} (h:(DataW.weightsEach P ts ds).all (· ≤reachBytes)=true) {j:Nat} {t:TypeId} {d:DataW H} (ht:ts[j]? =some t) (hd:ds[j]? =some d):∀ n ∈ d.weights P t,n≤reachBytes:=fun n hn=>by
 have:=List.all_eq_true.1 h n (DataW.weights_mem_each ht hd n hn)
 simpa using this
end
set_option linter.unusedVariables false
set_option linter.unusedSimpArgs false
section
variable {H:Type} {enc:TypeId × Value→H} {P:Program} {W:World} {base:Nat} {held:Bool}
theorem ZY {e:TypeId} (he:P.underlying e=some .bool) (c:Value) (n:Nat) (y:DataW H × List MemPlace) (h:DataW.trod enc P W base (fun _=>true) held n e [c]=some y):∃ b:Bool,c= .bool b:=by
 obtain ⟨z,h1,_⟩:=DataW.trod_bool he h
 exact ⟨z,by simpa using h1⟩
end
end Go.Itp
namespace Go.Itp
set_option linter.unusedVariables false
section
variable {old:Nat→Nat→Option Value} {rounds:Nat} {fns:FuncId→Option p5} {prims:FuncId→List Value→St→Option (Value × List w7)} {n:Nat} {xs:List V} {af:p5}
abbrev QM (old:Nat→Nat→Option Value):VW:=⟨fun a=>match a.spot with|none=>old a.block a.off|some _=>none,fun _=>False,fun _=>none,0⟩
theorem GX (E:D9) (h:E.old=old):n7 E ([]:m0)=(QM old).ld:=by
 funext a
 obtain ⟨b,o,sp⟩:=a
 subst h
 rcases sp with _|_|k<;>rfl
theorem bN8 {xsI:List Value} {x:Value} (hlen:xs.length≤af.n) (hx:f9 (QM old) xs xsI)
  (h:∀ C:C6,C.E=B6 old rounds fns prims n→C.w0.nx=0→gC C af.code [] (T9 0 xs) ⟨[],0,0⟩ (oK C af.res (.sc x) ⟨[],0,0⟩)):∃ s',body (B6 old rounds fns prims n) af xsI St.empty=some (x,s'):=by
 let C:C6:=C1 (B6 old rounds fns prims n) St.empty (YK (B6 old rounds fns prims n) [] fun _=>False)
 have hs:SR C ⟨[],0,0⟩ ⟨St.empty.heap,St.empty.next,St.empty.next⟩ (fun _=>none) fun _=>False:=SR.start (fun b hb=>hb.elim) (fun b blk e=>by simp[St.empty,g9] at e)
 have hx':f9 (s8 C ⟨[],0,0⟩ ⟨St.empty.heap,St.empty.next,St.empty.next⟩ (fun _=>none) fun _=>False) xs xsI:=by
  show f9 ⟨n7 (B6 old rounds fns prims n) ([]:m0),fun _=>False,fun _=>none,0⟩ xs xsI
  rw[GX _ (eA n)];exact hx
 obtain ⟨vI,sf,hbody,μ,G,g1,g2,g3,g4,g5⟩:=DU (C:=C) (s:=⟨St.empty.heap,St.empty.next,St.empty.next⟩) hlen (h C rfl rfl) ⟨_,_,hs,dN 0 hx',VW.le.refl _,rfl,fun b hb=> .inl hb⟩ hx.length
 simp only[d7] at g2
 rw[g2.1] at hbody
 exact ⟨sf,hbody⟩
theorem zZ {α:Type} {W:VW} (g:α→D) (f:α→Value):∀ (l:List α) (a:Addr),(∀ k (hk:k<l.length),W.ld (A7 a k)=some (f l[k]))→(∀ x ∈ l,A5 W (g x) (f x))→x9 W (l.map g) a
 | [],a,_,_=>by simp only[List.map_nil,x9]
 |x::r,a,h,hg=>by
  simp only[List.map_cons,x9]
  refine ⟨⟨f x,?_,hg x (List.mem_cons_self ..)⟩,zZ g f r _ (fun k hk=>?_) fun y hy=>hg y (List.mem_cons_of_mem _ hy)⟩
  ·have:=h 0 (by simp)
   simpa [A7] using this
  ·have:=h (k+1) (by simpa using hk)
   rw[show A7 (A7 a 1) k=A7 a (k+1) from by simp only[A7,Nat.add_assoc,Nat.add_comm 1 k]]
   simpa using this
end
set_option linter.constructorNameAsVariable false
section
variable {old:Nat→Nat→Option Value} {rounds:Nat} {fns:FuncId→Option p5} {prims:FuncId→List Value→St→Option (Value × List w7)} {n:Nat} {f:FuncId} {xs:List V} {v:V} {st st1:n4} {af:p5} {C:C6}
theorem SR.env2 {s:St} {μ:Nat→Option Nat} {F:Nat→Prop} (h:SR C st s μ F) {C':C6} (hE:n7 C'.E=n7 C.E) (hn:C'.n0≤s.next) (hU:∀ b,(C'.U b→b<C'.n0∧g9 s.heap b=g9 C'.h0 b)∧(C'.U b→C.U b)):SR C' st s μ F:=by
 have hw:s8 C' st s μ F=s8 C st s μ F:=by
  show (⟨n7 C'.E s.heap,F,μ,st.next⟩:VW)=⟨n7 C.E s.heap,F,μ,st.next⟩
  rw[hE]
 refine ⟨fun o ob e hnn=>?_,fun o ob b e1 e2 e3=>?_,h.fz,h.inj,h.dom,h.lt,h.cl,fun b hb=>(hU b).1 hb,hn,h.own,h.hb,h.pr,h.pb⟩
 ·rw[hw];exact h.obj o ob e hnn
 ·obtain ⟨q1,q2⟩:=h.wr o ob b e1 e2 e3
  exact ⟨q1,fun hr=>⟨(q2 hr).1,fun hu=>(q2 hr).2 ((hU b).2 hu)⟩⟩
theorem RK {Q:V→n4→Prop} (hC:C.E=B6 old rounds fns prims (n+1)) (hf:fns f=some af) (hpu:af.pure=false) (hp:∀ xs s,prims f xs s=none) (hlen:xs.length≤af.n) (hq:Q v st1)
  (h:∀ C':C6,C'.E=B6 old rounds fns prims n→C'.w0.nx=st.next→gC C' af.code [] (T9 0 xs) st (oK C' af.res v st1)):eZ C f xs st Q:=by
 refine ⟨v,st1,hq,fun s μ F xsI hsr hx hpr=>?_⟩
 let C':C6:=⟨B6 old rounds fns prims n,s.next,s.heap,C.U,⟨n7 (B6 old rounds fns prims n) s.heap,F,μ,st.next⟩,C.p0⟩
 have hE:n7 C'.E=n7 C.E:=by rw[hC];exact cR _ _
 have hs':SR C' st s μ F:=hsr.env2 hE (Nat.le_refl _) (fun b=>⟨fun hb=>⟨by have:=(hsr.un b hb).1;have:=hsr.n0;show b<s.next;omega,rfl⟩,fun hb=>hb⟩)
 have hx':f9 (s8 C' st s μ F) xs xsI:=by
  show f9 ⟨n7 C'.E s.heap,F,μ,st.next⟩ xs xsI
  rw[hE];exact hx
 obtain ⟨vI,sf,hbody,μ',G,g1,g2,g3,g4,g5⟩:=DU (C:=C') (s:=s) hlen (h C' rfl rfl) ⟨μ,F,hs',dN 0 hx',VW.le.refl _,hpr,fun b hb=> .inl hb⟩ hx.length
 have hn:s.next≤sf.next:=g1.n0
 have hw:s8 C st1 sf μ' G=s8 C' st1 sf μ' G:=by
  show (⟨n7 C.E sf.heap,G,μ',st1.next⟩:VW)=⟨n7 C'.E sf.heap,G,μ',st1.next⟩
  rw[hE]
 have g1':SR C st1 sf μ' G:=g1.env2 hE.symm (by have:=hsr.n0;omega) (fun b=>⟨fun hb=>⟨(hsr.un b hb).1,by rw[(g1.un b hb).2];exact (hsr.un b hb).2⟩,fun hb=>hb⟩)
 refine ⟨vI,sf,μ',G,?_,g1',by rw[hw];exact g2,?_,by rw[g4,hpr],hn,fun b hb=>?_⟩
 ·simp only[callI,hC,fT,HW,hp,hf,Option.bind_some,hpu]
  exact hbody
 ·rw[hw]
  show VW.le ⟨n7 C.E s.heap,F,μ,st.next⟩ _
  rw[← hE];exact g3
 ·rcases g5 b hb with hb|hb
  ·exact .inl hb
  ·exact .inr (by rw[hpr];exact hb)
end
def bV (c:Nat):Obj:= .row c 0 true false []
def isN:Ex→Bool
 | .normal=>true
 |_=>false
def xS:D0→List Nat→List V→Option D0
 |fr,[],[]=>some fr
 |fr,t::ts,v::vs=>xS (lC fr t v) ts vs
 |_,_,_=>none
def DK (E:D9) (a b:AC) (fr:D0) (ps:List Nat) (o:Nat) (xs:List V) (st:n4) (Q:V→n4→Prop):Prop:=
 st.ro≤o∧i7 st.own o=some (bV 0)∧o<st.next∧∃ fr1,xS fr ps xs=some fr1∧∀ C:C6,C.E=E→C.w0.nx=st.next→
  gC C a [] fr1 st fun ex fr2 st2=>ex= .normal∧st2.ro≤o∧i7 st2.own o=some (bV 0)∧
   gC C b [] fr2 ⟨B5 st2.own o (bV 1),st2.next,st2.ro⟩ fun ex _ st3=>st3.ro≤o∧i7 st3.own o=some (bV 1)∧∃ st4,L2 C [] ⟨B5 st3.own o (bV (fW ex)),st3.next,st3.ro⟩ [] st4∧Q (.sc (.bool (isN ex))) st4
section
variable {C:C6} {st:n4} {s:St} {μ:Nat→Option Nat} {F:Nat→Prop}
theorem aV:∀ H:D6,D1 [] H=H
 | []=>rfl
 |(j,o)::r=>by rw[gB,aV r];rfl
theorem SR.recd (h:SR C st s μ F) {o c:Nat} (ho:i7 st.own o=some (bV c)):∃ b blk,μ o=some b∧g9 s.heap b=some blk∧blk.esz=0∧blk.grow=true∧blk.ty=c:=by
 obtain ⟨b,blk,h1,h2,h3⟩:=h.obj o _ ho rfl
 exact ⟨b,blk,h1,h2,h3.1,h3.2.1,h3.2.2.1⟩
theorem pG {hp:m0} {b c:Nat} {blk:w7} (h:g9 hp b=some blk) (h1:blk.esz=0) (h2:blk.grow=true) (h3:blk.ty=c):lJ hp b c=true:=by
 unfold lJ
 rw[h]
 simp[h1,h2,h3]
theorem SR.setRec (h:SR C st s μ F) {o b c:Nat} (ho:i7 st.own o=some (bV c)) (hro:st.ro≤o) (hμ:μ o=some b) (c':Nat):
  SR C ⟨B5 st.own o (bV c'),st.next,st.ro⟩ {s with heap:=A1 s.heap b (A8 c')} μ F∧VW.le (s8 C st s μ F) (s8 C ⟨B5 st.own o (bV c'),st.next,st.ro⟩ {s with heap:=A1 s.heap b (A8 c')} μ F)∧s.prot≤b:=by
 obtain ⟨b',blk,h1,h2,_⟩:=h.recd ho
 rw[hμ] at h1;cases h1
 have:=h.upd (fz:= []) ho rfl hro hμ h2 rfl (by simp) (ob':=bV c') (blk':=A8 c') rfl rfl rfl (fun w' _ _ _=>⟨rfl,rfl,rfl,by simp only[l6,A8]⟩)
 rw[aV,K3] at this
 exact this
theorem RW {w:VW}:∀ (ps:List Nat) (xs:List V) (fr fr1:D0) (frI:Fr) (xsI:List Value),xS fr ps xs=some fr1→FR w fr frI→f9 w xs xsI→∃ frI1,qV frI ps xsI=some frI1∧FR w fr1 frI1
 | [],[],fr,fr1,frI,xsI,h,hf,hx=>by
  simp only[xS,Option.some.injEq] at h;subst h
  simp only[f9] at hx;subst hx
  exact ⟨frI,rfl,hf⟩
 | [],_::_,fr,fr1,frI,xsI,h,hf,hx=>by simp[xS] at h
 |_::_,[],fr,fr1,frI,xsI,h,hf,hx=>by simp[xS] at h
 |t::ps,v::xs,fr,fr1,frI,xsI,h,hf,hx=>by
  simp only[f9] at hx
  obtain ⟨vI,xsI',rfl,h1,h2⟩:=hx
  simp only[xS] at h
  exact RW ps xs _ fr1 _ xsI' h (hf.put h1 (some t)) h2
theorem tB {E E':D9} (h:E'.old=E.old):n7 E'=n7 E:=by
 funext hp a
 rw[DN,DN,h]
theorem bE9 {E:D9} {C':C6} {a b:AC} {fr:D0} {frI:Fr} {ps:List Nat} {o d0:Nat} {xs:List V} {st:n4} {Q:V→n4→Prop} (hy:C'.E.yld d0=iG (z9 E a) (z9 E b) frI ps d0)
  (hE:n7 C'.E=n7 E) (hfr:FR C'.w0 fr frI) (hμ:C'.w0.μ o=some d0) (ho:o<C'.w0.nx) (hr:DK E a b fr ps o xs st Q):QR C' o xs st Q:=by
 intro s μ F xsI d hs hx hle hp hF htok
 obtain ⟨hro,hrec,hon,fr1,hput,hround⟩:=hr
 obtain ⟨b0,blk,hb,hbk,z1,z2,z3⟩:=hs.recd hrec
 have hbd:b0=d0:=by
  have:=hle.μ o b0 ho hb
  rw[hμ] at this
  exact (Option.some.inj this).symm
 subst hbd
 have hd:d=b0:=by
  simp only[d7] at htok
  obtain ⟨_,b',e,q⟩:=htok
  cases e
  exact q b0 hb
 subst hd
 let C2:C6:=⟨E,s.next,s.heap,C'.U,s8 C' st s μ F,C'.p0⟩
 have hE2:n7 C2.E=n7 C'.E:=hE.symm
 have hw2:∀ (st:n4) (s:St) (μ:Nat→Option Nat) (F:Nat→Prop),s8 C2 st s μ F=s8 C' st s μ F:=fun st s μ F=>by
  show (⟨n7 C2.E s.heap,F,μ,st.next⟩:VW)=⟨n7 C'.E s.heap,F,μ,st.next⟩
  rw[hE2]
 have hs2:SR C2 st s μ F:=hs.env2 hE2 (Nat.le_refl _) fun x=>⟨fun hu=>⟨by have:=(hs.un x hu).1;have:=hs.n0;show x<s.next;omega,rfl⟩,fun hu=>hu⟩
 obtain ⟨frI1,hf1,hfr1⟩:=RW ps xs fr fr1 frI xsI hput (hfr.mono hle) hx
 have hRl:Rl C2 st fr1 s frI1:=⟨μ,F,hs2,by rw[hw2];exact hfr1,by rw[hw2];exact VW.le.refl _,hp,fun b hb=> .inl hb⟩
 obtain ⟨ex,frI2,s2,e1,fr2,st2,hR2,rfl,hro2,hrec2,h2⟩:=cP a (hround C2 rfl rfl) frI1 s hRl
 obtain ⟨μ2,F2,g1,g2,g3,g4,g5⟩:=hR2
 obtain ⟨b2,blk2,hb2,hbk2,y1,y2,y3⟩:=g1.recd hrec2
 have hbb:b2=d:=by
  have:=g3.μ o b2 hon hb2
  exact Option.some.inj (this.symm.trans hb)
 subst hbb
 obtain ⟨k1,k2,k3⟩:=g1.setRec hrec2 hro2 hb2 1
 obtain ⟨ex3,frI3,s3,e3,fr3,st3,hR3,hro3,hrec3,st4,hW,hq⟩:=cP b h2 frI2 _ ⟨μ2,F2,k1,g2.mono k2,g3.trans k2,g4,g5⟩
 obtain ⟨μ3,F3,m1,m2,m3,m4,m5⟩:=hR3
 obtain ⟨b3,blk3,hb3,hbk3,x1,x2,x3⟩:=m1.recd hrec3
 have hbc:b3=b2:=by
  have:=m3.μ o b3 hon hb3
  exact Option.some.inj (this.symm.trans hb)
 subst hbc
 obtain ⟨j1,j2,j3⟩:=m1.setRec hrec3 hro3 hb3 (fW ex3)
 have hpr:s.prot≤b3:=(hs.wr o _ b3 hrec hb rfl).2 hro|>.1
 obtain ⟨μ4,F4,w1,_,w3,w4,w5⟩:=hW {s3 with heap:=A1 s3.heap b3 (A8 (fW ex3))} [] ⟨μ3,F3,j1,fun t v e=>(by cases e),m3.trans j2,m4,m5⟩
 have j1':SR C' st4 {s3 with heap:=A1 s3.heap b3 (A8 (fW ex3))} μ4 F4:=w1.env2 hE (by have:=hs.n0;show C'.n0≤s3.next;have h9:s.next≤s3.next:=w1.n0;omega) fun x=>⟨fun hu=>⟨(hs.un x hu).1,by rw[(w1.un x hu).2];exact (hs.un x hu).2⟩,fun hu=>hu⟩
 refine ⟨_,_,hq,.bool (isN ex3),{s3 with heap:=A1 s3.heap b3 (A8 (fW ex3))},μ4,F4,?_,j1',.mksc rfl,?_,?_,?_,fun x hx=>?_⟩
 ·rw[hy]
  unfold iG
  rw[if_pos (by rw[Bool.and_eq_true,Nat.ble_eq];exact ⟨hpr,pG hbk z1 z2 z3⟩),hf1]
  have e1':z9 E a frI1 s=some (Ex.normal,frI2,s2):=e1
  simp only[Option.bind_some,e1']
  rw[if_pos (pG hbk2 y1 y2 y3)]
  rw[show z9 E b frI2 {s2 with heap:=A1 s2.heap b3 (A8 1)}=some (ex3,frI3,s3) from e3]
  simp only[Option.bind_some]
  rw[if_pos (pG hbk3 x1 x2 x3)]
  cases ex3<;>rfl
 ·rw[hw2] at w3
  exact w3
 ·show s3.prot=s.prot
  rw[m4,hp]
 ·show s.next≤s3.next
  exact w1.n0
 ·rcases w5 x hx with h|h
  ·exact .inl h
  ·exact .inr (by rw[hp];exact h)
end
section
variable {C:C6} {st:n4} {old:Nat→Nat→Option Value} {rounds:Nat} {fns:FuncId→Option p5} {prims:FuncId→List Value→St→Option (Value × List w7)} {n:Nat} {f:FuncId} {xs:List V} {af:p5} {fr:D0} {P:A3} {K:List KF}
theorem oQ:∀ (n:Nat) (y:Yh),(R9 old rounds fns prims n y).old=old
 |0,_=>rfl
 |n+1,_=>rfl
theorem DY:∀ (n:Nat) (y:Yh),(R9 old rounds fns prims n y).rounds=rounds
 |0,_=>rfl
 |n+1,_=>rfl
theorem HV:∀ (n:Nat) (y:Yh),(R9 old rounds fns prims n y).pcall=(B6 old rounds fns prims n).pcall
 |0,_=>rfl
 |n+1,_=>rfl
theorem aD0 {g:Operand} {ps ks:List Nat} {a b:AC} {fr':D0} {st':n4} (hw:L2 C fr st fr' st') (h:gC C (.rangeF g ps ks a b) K fr' st' P):gC C (.rangeF g ps ks a b) K fr st P:=
 fun frI s hr=>h frI s (hw s frI hr)
theorem SW {y:Yh} {g:Operand} {ps ks:List Nat} {a b:AC} {gV:V} (hC:C.E=R9 old rounds fns prims (n+1) y) (hg:p7 fr g=some gV) (hcl:U2 gV [.tok st.next]=some (f,xs)) (hf:fns f=some af) (hlen:xs.length≤af.n) (hres:af.res= []) (hro0:st.ro≤st.next)
  (h:∀ C':C6,C'.w0.nx=st.next+1→C'.E.rounds=rounds→C'.E.pcall=(B6 old rounds fns prims n).pcall→C'.E.old=old→(∀ xs st' Q,DK C.E a b (B9 ks fr) ps st.next xs st' Q→QR C' st.next xs st' Q)→
   gC C' af.code [] (T9 0 xs) ⟨(st.next,bV 0)::st.own,st.next+1,st.ro⟩ fun ex _ st'=>(∀ i,ex ≠ .exit i)∧st'.ro≤st.next∧∃ c e,i7 st'.own st.next=some (bV c)∧aD7 c=some e∧gK C K e (B9 ks fr) ⟨J4 st.next st'.own,st'.next,st'.ro⟩ P):
  gC C (.rangeF g ps ks a b) K fr st P:=by
 show DV C (z9 C.E (.rangeF g ps ks a b)) fr st fun ex fr st=>gK C K ex fr st P
 intro frI s hRl
 obtain ⟨μ,F,h1,h2,h3,h4,h5⟩:=hRl
 obtain ⟨gI,b1,b2⟩:=m6 h2 hg
 have hP:kI s.heap (s8 C st s μ F) s.next (.tok st.next) (some (bV 0)) [] (.chan (some s.next)) [A8 0]:=
  ⟨rfl,rfl,rfl,A8 0,rfl,fun w' hle _ _ hn hμ=>⟨by simp only[d7];exact ⟨hn,s.next,rfl,fun b hb=>Option.some.inj (hμ.symm.trans hb)⟩,rfl,rfl,rfl,by simp only[l6,A8]⟩⟩
 obtain ⟨k1,k2,k3,_⟩:=h1.push hP rfl
 rw[K3] at k1 k2 k3
 have hst1:st.push (some (bV 0)) []=⟨(st.next,bV 0)::st.own,st.next+1,st.ro⟩:=by simp only[n4.push,aV]
 rw[hst1] at k1 k2 k3
 obtain ⟨st1,hs1⟩:∃ st1:n4,st1=⟨(st.next,bV 0)::st.own,st.next+1,st.ro⟩:=⟨_,rfl⟩
 obtain ⟨μ1,hμ1⟩:∃ μ1,μ1=KI μ st s (some (bV 0)):=⟨_,rfl⟩
 rw[← hs1,← hμ1] at k1 k2 k3
 obtain ⟨xsI,c1,c2⟩:=oT (vsI:= [.chan (some s.next)]) hcl (b2.mono k3) (by simp only[f9];exact ⟨_,_,rfl,k2,rfl⟩)
 let hnd:=iG (z9 C.E a) (z9 C.E b) (q9 ks frI) ps s.next
 let E':=R9 old rounds fns prims n (NA y s.next hnd)
 have hE:n7 E'=n7 C.E:=tB (by rw[hC];exact (oQ _ _).trans (oQ _ _).symm)
 let C':C6:=⟨E',(s.push [A8 0]).next,(s.push [A8 0]).heap,C.U,s8 C st1 (s.push [A8 0]) μ1 F,C.p0⟩
 have hw:∀ (st:n4) (s:St) (μ:Nat→Option Nat) (F:Nat→Prop),s8 C' st s μ F=s8 C st s μ F:=fun st s μ F=>by
  show (⟨n7 E' s.heap,F,μ,st.next⟩:VW)=⟨n7 C.E s.heap,F,μ,st.next⟩
  rw[hE]
 have hs':SR C' st1 (s.push [A8 0]) μ1 F:=k1.env2 hE (Nat.le_refl _) fun x=>⟨fun hu=>⟨by have:=(k1.un x hu).1;have:=k1.n0;show x<(s.push [A8 0]).next;omega,rfl⟩,fun hu=>hu⟩
 have hμd:μ1 st.next=some s.next:=by rw[hμ1];simp[KI]
 have hyd:E'.yld s.next=hnd:=by
  have:∀ (n:Nat) (y:Yh),(R9 old rounds fns prims n y).yld=y:=fun n y=>by cases n<;>rfl
  show (R9 old rounds fns prims n (NA y s.next hnd)).yld s.next=hnd
  rw[this]
  unfold NA
  rw[if_pos (j7.2 rfl)]
 have hfrk:FR C'.w0 (B9 ks fr) (q9 ks frI):=(h2.mono k3).keep ks
 have hst1n:st1.next=st.next+1:=by rw[hs1]
 have hh:=h C' hst1n (DY _ _) (HV _ _) (oQ _ _) fun xs st' Q hr=>bE9 (C':=C') hyd hE hfrk hμd (show st.next<st1.next by omega) hr
 rw[← hs1] at hh
 obtain ⟨ex,frI',s',e1,fr',st',hR,hne,hro,c,ej,hrec,hj,hk⟩:=cP af.code hh (bY 0 xsI) (s.push [A8 0]) ⟨μ1,F,hs',by rw[hw];exact dN 0 c2,by rw[hw];exact VW.le.refl _,h4,fun b hb=> .inl hb⟩
 obtain ⟨μ2,F2,g1,g2,g3,g4,g5⟩:=hR
 obtain ⟨b0,blk,hb,hbk,z1,z2,z3⟩:=g1.recd hrec
 have hb0:b0=s.next:=by
  have:=g3.μ st.next b0 (by show st.next<st1.next;rw[hs1];exact Nat.lt_succ_self _) hb
  exact Option.some.inj (this.symm.trans hμd)
 subst hb0
 have g1C:SR C st' s' μ2 F2:=g1.env2 hE.symm (by have h9:(s.push [A8 0]).next≤s'.next:=g1.n0;have:=k1.n0;omega) fun x=>⟨fun hu=>⟨(k1.un x hu).1,by rw[(g1.un x hu).2];exact (k1.un x hu).2⟩,fun hu=>hu⟩
 obtain ⟨d1,d2,_⟩:=g1C.del hrec rfl hro hb
 have hbody:body E' af xsI (s.push [A8 0])=some (.tuple #[],s'):=by
  unfold body
  rw[if_pos (by rw[Nat.ble_eq,c2.length];omega)]
  rw[show z9 E' af.code (bY 0 xsI) (s.push [A8 0])=some (ex,frI',s') from e1]
  cases ex with
  |exit i=>exact absurd rfl (hne i)
  |normal=>simp only[Option.bind_some,hres,X4,Option.map_some];rfl
  |ret=>simp only[Option.bind_some,hres,X4,Option.map_some];rfl
 rw[hw] at g3
 refine ⟨ej,q9 ks frI,{s' with heap:=G0 s'.heap s.next},?_,B9 ks fr,_,⟨_,F2,d1,?_,?_,?_,fun b hb=>?_⟩,hk⟩
 ·simp only[z9,b1,Option.bind_some,c1]
  have:C.E.rcall s.next hnd f xsI (s.push [A8 0])=some (.tuple #[],s'):=by
   rw[hC]
   show (fns f).bind (fun af=>body (R9 old rounds fns prims n (NA y s.next hnd)) af xsI (s.push [A8 0]))=_
   rw[hf]
   exact hbody
  rw[show C.E.rcall s.next (iG (z9 C.E a) (z9 C.E b) (q9 ks frI) ps s.next) f xsI (s.push [A8 0])=some (.tuple #[],s') from this]
  simp only[Option.bind_some,hbk]
  rw[if_pos (by simp[z1,z2]),z3,hj]
  rfl
 ·exact ((h2.mono k3).mono (g3.trans d2)).keep ks
 ·exact (h3.trans k3).trans (g3.trans d2)
 ·show s'.prot=C.p0
  rw[g4]
 ·rcases g5 b hb with h|h
  ·exact h5 b h
  ·exact .inr h
end
end Go.Itp
namespace Go.Itp
open Go.RowKit (Below)
open Go.Sort (grow)
section
variable {P:Program} {G:u9} {μ:Mu} {s:St} {w:World}
end
end Go.Itp
namespace Go.Itp
open Go.RowKit (Below)
set_option linter.unusedVariables false
set_option linter.constructorNameAsVariable false
section
variable {C:C6} {st:n4} {fr:D0}
theorem bR (ρ:List (Nat × Nat)) (k:Nat) {fr':D0} {st':n4} (hb:C.w0.nx≤k) (hr:st.ro=0) (hk:BI C.w0.nx 0 k ρ=true) (hf:vX ρ fr=fr') (hs:(⟨vY ρ st.own ρ,k,0⟩:n4)=st'):L2 C fr st fr' st':=by
 have:=xX (C:=C) (st:=st) ρ k (fr:=fr) hb (by rw[hr];exact hk)
 rw[hr,hs,hf] at this
 exact this
end
section
variable {P:Program} {G:u9} {μ:Mu} {s:St} {w:World}
end
section
variable {old:Nat→Nat→Option Value} {rounds:Nat} {fns:FuncId→Option p5} {prims:FuncId→List Value→St→Option (Value × List w7)} {n:Nat} {f:FuncId}
section
open Go.RowKit
end
end
end Go.Itp
namespace Go.Itp
set_option linter.unusedVariables false
set_option linter.constructorNameAsVariable false
section
variable {C:C6} {st:n4} {fr:D0}
theorem aO7 {o t e:Nat} {z:Bool} {l:List D} (h:i7 st.own o=some (.gro t e z l)) (hl:l ≠ []):L2 C fr st fr ⟨B5 st.own o (.row t e true z l),st.next,st.ro⟩:=by
 rintro s frI ⟨μ,F,h1,hf,h3⟩
 have hgn:(Obj.gro t e z l).none=false:=by cases l with|nil=>exact absurd rfl hl|cons=>rfl
 have hown:∀ i ob,i7 (B5 st.own o (.row t e true z l)) i=some ob→(i=o∧ob= .row t e true z l)∨(i ≠ o∧i7 st.own i=some ob):=fun i ob e'=>by
  rw[F6 _ _ _ _ _ h] at e'
  split at e'
  ·rename_i hi;cases e';exact .inl ⟨hi,rfl⟩
  ·rename_i hi;exact .inr ⟨hi,e'⟩
 refine ⟨μ,F,⟨?_,?_,?_,h1.inj,?_,h1.lt,h1.cl,h1.un,h1.n0,?_,h1.hb,h1.pr,h1.pb⟩,hf,h3⟩
 ·intro i ob e' hn
  rcases hown i ob e' with ⟨rfl,rfl⟩|⟨hi,e1⟩
  ·obtain ⟨b,blk,m1,m2,m3⟩:=h1.obj i _ h hgn
   exact ⟨b,blk,m1,m2,m3.1,m3.2.1,m3.2.2.1,m3.2.2.2⟩
  ·exact h1.obj i ob e1 hn
 ·intro i ob b e' e2 hz
  rcases hown i ob e' with ⟨rfl,rfl⟩|⟨hi,e1⟩
  ·exact h1.wr i _ b h e2 hz
  ·exact h1.wr i ob b e1 e2 hz
 ·intro i ob b e' e2 hz
  rcases hown i ob e' with ⟨rfl,rfl⟩|⟨hi,e1⟩
  ·exact h1.fz i _ b h e2 hz
  ·exact h1.fz i ob b e1 e2 hz
 ·intro i b e'
  obtain ⟨d1,d2,ob,d3,d4⟩:=h1.dom i b e'
  by_cases hi:i=o
  ·subst hi;exact ⟨d1,d2,_,by simp only;rw[F6 _ _ _ _ _ h,if_pos rfl],rfl⟩
  ·exact ⟨d1,d2,ob,by simp only;rw[F6 _ _ _ _ _ h,if_neg hi];exact d3,d4⟩
 ·intro i ob e'
  rcases hown i ob e' with ⟨rfl,rfl⟩|⟨hi,e1⟩
  ·exact ⟨(h1.own i _ h).1,(h1.own i _ h).2⟩
  ·exact h1.own i ob e1
end
theorem oM {α:Type}:∀ (r:List (Nat × α)) (i:Nat) (u v:α),B5 (B5 r i u) i v=B5 r i v
 | [],i,u,v=>rfl
 |(k,x)::r,i,u,v=>by
  rw[U1,U1]
  split
  ·rename_i h;subst h;rw[U1,if_pos rfl]
  ·rename_i h;rw[U1,if_neg h,oM r i u v]
theorem DM {α:Type} {r:List (Nat × α)} {i:Nat} {u v:α} (h:i7 r i=some u):i7 (B5 r i v) i=some v:=by rw[F6 _ _ _ _ _ h,if_pos rfl]
theorem rE (u t:TypeId) (f:FuncId) (r:List (TypeId × FuncId)):P6 ((u,f)::r) t=if t=u then some f else P6 r t:=by
 simp only[P6]
 by_cases h:t=u
 ·rw[if_pos (j7.2 h),if_pos h]
 ·rw[if_neg (by rw[j7];exact h),if_neg h]
section
variable {old:Nat→Nat→Option Value} {fr:D0} {H:D6} {nx:Nat}
def aQ5:V→Option V
 | .ref _ _ _ c=>if Nat.blt c t8 then some (.sc (.int .i64 c)) else none
 | .slk _ _ c _=>some (.sc (.int .i64 c))
 | .sc (.slice none _ _)=>some (.sc (.int .i64 0))
 |_=>none
theorem aH3 (x:Operand):i6 old fr H nx (.cap x)=vp (jM aQ5 (p7 fr x)):=by
 simp only[i6,jM]
 cases p7 fr x with
 |none=>rfl
 |some v=>
  simp only[Option.bind_some]
  cases v with
  |sc x=>cases x with
   |slice a b c=>cases a<;>rfl
   |_=>rfl
  |ref o k n c=>simp only[aQ5];split<;>rfl
  |_=>rfl
theorem HZ (n c:Nat):aQ5 (.sc (.slice none n c))=some (.sc (.int .i64 0)):=(rfl)
theorem IA (s n c:Nat) (l:List D):aQ5 (.slk s n c l)=some (.sc (.int .i64 c)):=(rfl)
theorem DG (e n c:Nat) (j:IntKind):aC e none (some (.int j 0)) none (.sc (.slice none n c))=some (.sc (.slice none 0 0)):=by
 simp only[aC]
 rfl
theorem NO (e s o n:Nat) (j:IntKind) (hn:n ≠ 0):aC e none (some (.int j 0)) none (.gr s o n)=some (.ref o 0 0 (t8+n)):=by
 simp only[aC]
 rw[if_neg (by rw[j7];exact hn)]
 have h1:Nat.blt (t8+n) t8=false:=by rw[← Bool.not_eq_true,Nat.blt_eq];omega
 have h2:Nat.blt 0 (t8+n - t8)=true:=by rw[Nat.blt_eq];omega
 have h0:0<n:=by omega
 simp only[pX,v7,Option.bind_some]
 simp[h1,h0]
theorem KW (t:TypeId) (e b:Nat) (z:List Value) (x y:Operand):i6 old fr H nx (.appMk t e b z x y)=jN (lY nx t e b z) (p7 fr x) (p7 fr y):=(rfl)
theorem yU (t e b:Nat) (z:Value) (n:Nat) (hn:0<n) (h1:n≤1099511627776) (hz:D5 z=true) (h2:n*b≤1099511627776):lY nx t e b [z] (.sc (.slice none 0 0)) (.sc (.int .i64 n))=some (.gr 2 nx n,some (.gro t e false (List.replicate n (.sc z))),[]):=by
 have hr:rep [z] n=List.replicate n z:=by
  induction n with
  |zero=>rfl
  |succ n ih=>
   rcases Nat.eq_zero_or_pos n with h0|h0
   ·subst h0;rfl
   ·simp only[rep,List.replicate_succ]
    rw[ih h0 (by omega) (Nat.le_trans (Nat.mul_le_mul_right _ (Nat.le_succ n)) h2)]
    rfl
 simp only[lY]
 rw[if_neg (by omega),if_pos ⟨by omega,by unfold r5;omega,by simp[hz],by simp⟩]
 simp only[Int.toNat_natCast]
 rw[if_pos (by rw[Nat.ble_eq];exact h2),hr]
 simp[lU]
def Z1 (st:n4) (t e b o k n c:Nat) (ob:Option Obj) (src:YQ):Option (V × n4):=
 match ob,src with
 |some (.row t' e' g z l),some (m,new,fz)=>
  if P1 new && !Nat.beq e 0 && B0 st.ro st.own fz then (if !Nat.ble st.ro o||z||Nat.beq m 0|| !Nat.ble (n+m) r5|| !Nat.ble ((n+m)*b) r5 then none
      else if Nat.blt c t8 then (if Nat.ble (n+m) c && !m8 o fz then (C8 l (k+n*e) new).map fun l=>(.ref o k (n+m) c,⟨B5 (D1 fz st.own) o (.row t' e' g false l),st.next,st.ro⟩) else none)
      else if g && Nat.beq t' t && Nat.beq e' e && Nat.beq (k+n*e) l.length && Nat.beq c (t8+n) && !m8 o fz then
       some (.gr 2 st.next (n+m),⟨(st.next,.gro t e false (l.drop k++new))::D1 fz (J4 o st.own),st.next+1,st.ro⟩)
      else if Nat.ble (n+m) (c - t8) && !m8 o fz && !(g && Nat.beq t' t && Nat.beq e' e && Nat.beq (k+n*e) l.length && Nat.beq c (t8+n)) then (C8 l (k+n*e) new).map fun l=>(.ref o k (n+m) c,⟨B5 (D1 fz st.own) o (.row t' e' g false l),st.next,st.ro⟩)
      else none) else none
 |_,_=>none
theorem CT (st:n4) (t e b o k n c:Nat) (y:V):rU st t e b (.ref o k n c) y=Z1 st t e b o k n c (i7 st.own o) (S4 st.own e y):=by
 simp only[rU,S4]
 cases R6 y with
 |none=>simp only[Option.bind_none,Z1];cases i7 st.own o with|none=>rfl|some ob=>cases ob<;>rfl
 |some m=>
  simp only[Option.bind_some]
  cases K7 st.own e m y with
  |none=>simp only[Option.bind_none,Option.map_none,Z1];cases i7 st.own o with|none=>rfl|some ob=>cases ob<;>rfl
  |some r=>
   simp only[Option.bind_some,Option.map_some]
   cases i7 st.own o with
   |none=>simp only[Z1];split<;>rfl
   |some ob=>cases ob<;>simp only[Z1]<;>split<;>rfl
theorem bF {α:Type}:∀ (l:List α) (k:Nat) (m:List α),k+m.length≤l.length→C8 l k m=some (l.take k++m++l.drop (k+m.length))
 |l,k,[],h=>by simp[C8]
 | [],k,x::m,h=>by simp at h
 |a::l,0,x::m,h=>by
  simp only[List.length_cons] at h
  simp only[C8]
  rw[bF l 0 m (by omega)]
  simp
 |a::l,k+1,x::m,h=>by
  simp only[List.length_cons] at h
  simp only[C8]
  rw[bF l k (x::m) (by simp only[List.length_cons];omega)]
  simp only[Option.map_some,List.take_succ_cons,List.cons_append,List.length_cons]
  rw[show k+1+(m.length+1)=k+(m.length+1)+1 by omega,List.drop_succ_cons]
theorem tE (H:D6) (nx ro t e b o k n N t' e' m:Nat) (g:Bool) (l new:List D) (hro:ro≤o) (he:e ≠ 0) (hm:m ≠ 0) (hok:P1 new=true) (hle:n+m≤N) (h1:n+m≤1099511627776) (h2:(n+m)*b≤1099511627776) (hl:k+n*e+new.length≤l.length) (hn:n ≠ N):
  Z1 ⟨H,nx,ro⟩ t e b o k n (t8+N) (some (.row t' e' g false l)) (some (m,new,[]))=some (.ref o k (n+m) (t8+N),⟨B5 H o (.row t' e' g false (l.take (k+n*e)++new++l.drop (k+n*e+new.length))),nx,ro⟩):=by
 simp only[Z1,hok]
 have hb:Nat.ble ro o=true:=by rw[Nat.ble_eq];exact hro
 have h3:Nat.ble (n+m) r5=true:=by rw[Nat.ble_eq];exact h1
 have h4:Nat.ble ((n+m)*b) r5=true:=by rw[Nat.ble_eq];exact h2
 have h5:Nat.beq (t8+N) (t8+n)=false:=vE.2 (by omega)
 have h6:Nat.ble (n+m) (t8+N - t8)=true:=by rw[Nat.ble_eq];omega
 rw[if_pos (by simp[vE.2 he,B0]),if_neg (by simp[hb,h3,h4,vE.2 hm]),if_neg (by rw[Nat.blt_eq];omega),if_neg (by simp[h5]),if_pos (by rw[h6,h5];simp[m8])]
 rw[bF _ _ _ hl,s5]
 rfl
end
structure P5 where
 v:List Nat
 w:List Nat
 n:List Nat
  /-- it sees all but v -/
 a:Bool
  /-- its new objects are a stretch's -/
 r:Bool
def P5.out (l:List Nat) (q:P5):Bool:=if q.a then GF l q.v else IK l q.v
def P5.ok (p q:P5):Bool:=q.out p.w && p.out q.w && q.out p.n
def hO (rs:List P5) (q:P5):List Nat→Bool
 | []=>true
 |k::r=>(match B7 rs k with|some p=>p.ok q|none=>false) && hO rs q r
def PG:K8→Bool
 | .mov _=>true
 | .pick _ _ _=>true
 | .alloc _ _=>true
 | .box _ _=>true
 | .build _ _=>true
 | .mkRow _ _ _ _ _=>true
 | .nilChk _=>true
 | .bin _ _ _=>true
 | .eqB _ _ _=>true
 | .eqNil _ _ _ _=>true
 | .un _ _=>true
 | .convI _ _=>true
 | .convS _=>true
 | .mkSlice _ _ _ _ _ _=>true
 | .slcS _ _ _=>true
 | .slc _ _ _ _ _=>true
 | .slcA _ _ _ _ _=>true
 | .fldA _ _=>true
 | .fldV _ _ _=>true
 | .idxS _ _ _=>true
 | .idxA _ _ _ _=>true
 | .idxStr _ _=>true
 | .idxV _ _ _ _ _=>true
 | .ext _ _=>true
 | .mkFn _ _ _=>true
 | .mkIf _ _=>true
 | .len _ _=>true
 | .mm _ _ _=>true
 | .eqIf _ _ _ _ _=>true
 | .eqAgg _ _ _ _=>true
 |_=>false
def bQ5:V→List Nat
 | .ptr o _=> [o]
 |_=> []
def zO (old:Nat→Nat→Option Value) (st:n4) (k:Option Nat) (u:Option V):Option (V × n4 × P5):=u.bind fun u=>(bP old st.own k u).map fun v=>(v,st,⟨bQ5 u,[],[],false,false⟩)
def mT (st:n4) (o k:Nat) (y:Value):Option Obj→Option (V × n4 × P5)
 |some (.row t e g false l)=>if Nat.ble st.ro o && Nat.blt k l.length then some (.tup [],⟨B5 st.own o (.row t e g false (l.set k (.sc y))),st.next,st.ro⟩,⟨[o],[o],[],false,false⟩) else none
 |some (.box t e l)=>if Nat.ble st.ro o && Nat.blt k l.length then some (.tup [],⟨B5 st.own o (.box t e (l.set k (.sc y))),st.next,st.ro⟩,⟨[o],[o],[],false,false⟩) else none
 |some (.gro t e false l)=>if Nat.ble st.ro o && Nat.blt k l.length then some (.tup [],⟨B5 st.own o (.gro t e false (l.set k (.sc y))),st.next,st.ro⟩,⟨[o],[o],[],false,false⟩) else none
 |_=>none
def EF (st:n4):Option V→Option V→Option (V × n4 × P5)
 |some (.ptr o k),some (.sc y)=>mT st o k y (i7 st.own o)
 |_,_=>none
def aV4:List V→Bool
 | []=>true
 | .sc _::r=>aV4 r
 | .sl _ _ _::r=>aV4 r
 |_::_=>false
def FZ:List V→Option (List D)
 | []=>some []
 | .sc x::r=>(FZ r).map fun l=> .sc x::l
 |_::_=>none
def jD (st:n4) (n:Nat):Option V→Option V→Option (V × n4 × P5)
 |some (.ptr o k),some (.agg ys)=>match i7 st.own o with
  |some (.box t e l)=>if Nat.ble st.ro o && Nat.beq ys.length n && aV4 ys then (C8 l k ys).map fun l=>(.tup [],⟨B5 st.own o (.box t e l),st.next,st.ro⟩,⟨[o],[o],[],false,false⟩) else none
  |some (.row t e g false l)=>if Nat.ble st.ro o && Nat.beq ys.length n && !Nat.beq n 0 then (FZ ys).bind fun ds=>(C8 l k ds).map fun l=>(.tup [],⟨B5 st.own o (.row t e g false l),st.next,st.ro⟩,⟨[o],[o],[],false,false⟩) else none
  |some (.gro t e false l)=>if Nat.ble st.ro o && Nat.beq ys.length n && !Nat.beq n 0 then (FZ ys).bind fun ds=>(C8 l k ds).map fun l=>(.tup [],⟨B5 st.own o (.gro t e false l),st.next,st.ro⟩,⟨[o],[o],[],false,false⟩) else none
  |_=>none
 |_,_=>none
def ZX (st:n4) (e:Nat):Option V→Option V→Option (V × n4 × P5)
 |some (.ref o k n c),some (.ref o2 k2 m c2)=>match i7 st.own o with
   |some (.row t e' g false l)=>(K7 st.own e (Nat.min m n) (.ref o2 k2 m c2)).bind fun cs=>
     if Nat.ble st.ro o && P1 cs.1 && cs.2.isEmpty && (i7 st.own o2).any (fun ob=> !ob.fz) then (C8 l k cs.1).map fun l=>(.sc (.int .i64 (Nat.min m n)),⟨B5 st.own o (.row t e' g false l),st.next,st.ro⟩,⟨[o,o2],[o,o2],[],false,true⟩) else none
   |_=>none
 |_,_=>none
def IH (st:n4):VO→Option (V × n4 × P5)
 |some (v,none,[])=>some (v,st,⟨[],[],[],false,false⟩)
 |some (v,some ob,[])=>some (v,⟨(st.next,ob)::st.own,st.next+1,st.ro⟩,⟨[],[],[st.next],false,false⟩)
 |_=>none
def QI (old:Nat→Nat→Option Value) (f:D0) (st:n4) (o:K8) (hint:Option (List Nat)):Option (V × n4 × P5):=
 match o with
 | .load k a=>zO old st k (p7 f a)
 | .store n a x=>if Nat.beq n 1 then EF st (p7 f a) (p7 f x) else jD st n (p7 f a) (p7 f x)
 | .copy e d x=>ZX st e (p7 f d) (p7 f x)
 |o=>if hint.isNone && PG o then IH st (i6 old f st.own st.next o) else none
def bE3 (st:n4) (t e b:Nat):Option V→Option V→Option (V × n4 × P5)
 |some (.gr s o n),some (.ref o2 k2 m c2)=>match i7 st.own o,i7 st.own o2 with
   |some (.gro t' e' false l),some (.row t2 e2 g2 false l2)=>
     if Nat.ble st.ro o && !Nat.beq n 0 && !Nat.beq m 0 && !Nat.beq e 0 && Nat.beq t' t && Nat.beq e' e && Nat.beq l.length (n*e) && Nat.ble (n+m) r5 && Nat.ble ((n+m)*b) r5 && Nat.ble (k2+m*e) l2.length && P1 ((l2.drop k2).take (m*e)) then
      some (.gr 2 st.next (n+m),⟨(st.next,.gro t e false (l++(l2.drop k2).take (m*e)))::J4 o st.own,st.next+1,st.ro⟩,⟨[o,o2],[o,o2],[st.next],false,true⟩) else none
   |_,_=>none
 |_,_=>none
def RO (st:n4) (t e b:Nat):Option V→Option (V × n4 × P5)
 |some (.ref o2 k2 m c2)=>match i7 st.own o2 with
   |some (.row t2 e2 g2 false l2)=>
     if !Nat.beq m 0 && !Nat.beq e 0 && Nat.ble m r5 && Nat.ble (m*b) r5 && Nat.ble (k2+m*e) l2.length && P1 ((l2.drop k2).take (m*e)) then
      some (.gr 2 st.next m,⟨(st.next,.gro t e false ((l2.drop k2).take (m*e)))::st.own,st.next+1,st.ro⟩,⟨[o2],[],[st.next],false,false⟩) else none
   |_=>none
 |_=>none
def ZV (st:n4) (t e b:Nat):Option V→Option V→Option (V × n4 × P5)
 |some (.sc (.slice none 0 0)),y=>RO st t e b y
 |some (.gr 2 _ 0),y=>RO st t e b y
 |x,y=>bE3 st t e b x y
def T5 (old:Nat→Nat→Option Value) (f:D0) (st:n4) (o:K8) (hint:Option (List Nat)):Option (V × n4 × P5):=
 match o with
 | .app t e b x y=>ZV st t e b (p7 f x) (p7 f y)
 |o=>QI old f st o hint
def EQ (rs:List P5):List Nat→Bool
 | []=>true
 |k::r=>(match B7 rs k with|some p=>p.n.isEmpty && !p.r|none=>false) && EQ rs r
def wpS (C:C6) (o:K8) (hint:Option (List Nat)) (conc:List Nat) (rs:List P5) (f:D0) (st:n4) (Q:V→n4→P5→Prop):Prop:=
 match o with
 | .callF g xs=>hint=some []∧EQ rs conc=true∧∃ args v,T7 f xs=some args∧I5 C.E g st args v∧Q v st ⟨[],[],[],true,false⟩
 |o=>match T5 C.E.old f st o hint with|some (v,st',r)=>Q v st' r|none=>False
def wpD (C:C6):List qI→List P5→D0→n4→(D0→n4→Prop)→Prop
 | [],_,fr,st,Q=>Q fr st
 |x::l,rs,fr,st,Q=>match x.o.guard with
   |none=>wpS C x.o.op x.hint x.conc rs (B9 (r4 x.o) fr) st fun v st' r=>hO rs r x.conc=true∧wpD C l (rs++ [r]) (v9 fr x.o.dst v) st' Q
   |some (t,want)=>match i7 fr t with
     |some (.sc (.bool b))=>if b==want then (wpS C x.o.op x.hint x.conc rs (B9 (r4 x.o) fr) st fun v st' r=>hO rs r x.conc=true∧wpD C l (rs++ [r]) (v9 fr x.o.dst v) st' Q) else wpD C l (rs++ [⟨[],[],[],false,false⟩]) (v9 fr x.o.dst (.tup [])) st Q
     |some (.tup _)=>wpD C l (rs++ [⟨[],[],[],false,false⟩]) (v9 fr x.o.dst (.tup [])) st Q
     |_=>False
theorem WV {E:D9} {f:Fr} {h:m0} {n p:Nat} {o:K8} (ho:PG o=true):d6 E f ⟨[],n,n⟩ o=d6 E f ⟨h,n,p⟩ o:=by
 cases o<;>first|rfl|cases ho
def bS8 (μ:Nat→Option Nat) (F:Nat→Prop) (w:NW) (l:List Nat) (r:Bool):Prop:=
 (r=false∧∃ ln,w= .fix ln∧∀ b ∈ ln,¬ F b∧∃ o ∈ l,μ o=some b)∨(r=true∧((∃ m,w= .rng m m)∨∃ m,w= .rng m (m+1)∧¬ F m∧∃ o ∈ l,μ o=some m))
def bD4 (μ:Nat→Option Nat) (F:Nat→Prop) (v:VS) (q:P5):Prop:=
 (q.a=false∧∃ lv,v= .only lv∧∀ b ∈ lv,F b∨∃ o ∈ q.v,μ o=some b)∨(q.a=true∧∃ lv,v= .but lv∧∀ o ∈ q.v,∃ b ∈ lv,μ o=some b)
def fH (μ:Nat→Option Nat) (F:Nat→Prop) (r:H2) (q:P5):Prop:=
 ∃ vv lw nw,r=⟨vv,.only lw,nw⟩∧bD4 μ F vv q∧(∀ b ∈ lw,¬ F b∧∃ o ∈ q.w,μ o=some b)∧bS8 μ F nw q.n q.r
theorem KR (m:Nat):∀ l:List Nat,vQ m m l=true
 | []=>rfl
 |x::r=>by
  simp only[vQ,KR m r,Bool.and_true,Bool.or_eq_true,Nat.blt_eq,Nat.ble_eq]
  omega
theorem KQ (m:Nat):∀ l:List Nat,vQ m (m+1) l=true↔m ∉ l
 | []=>by simp[vQ]
 |x::r=>by
  simp only[vQ,Bool.and_eq_true,KQ m r,Bool.or_eq_true,Nat.blt_eq,Nat.ble_eq,List.mem_cons,not_or]
  constructor
  ·rintro ⟨h1,h2⟩;exact ⟨by omega,h2⟩
  ·rintro ⟨h1,h2⟩;exact ⟨by omega,h2⟩
theorem bD4.out {μ:Nat→Option Nat} {F:Nat→Prop} (hinj:∀ o o' b,μ o=some b→μ o'=some b→o=o') {v:VS} {q:P5} (h:bD4 μ F v q) {l w:List Nat} (hl:∀ b ∈ l,¬ F b∧∃ o ∈ w,μ o=some b) (k:q.out w=true):(VS.only l).dis v=true:=by
 rcases h with ⟨ha,lv,rfl,hv⟩|⟨ha,lv,rfl,hv⟩
 ·simp only[P5.out,ha,Bool.false_eq_true,if_false,W7] at k
  rw[aA0,W7]
  intro x hx hx'
  obtain ⟨n1,o,ho,e⟩:=hl x hx
  rcases hv x hx' with hF|⟨o',ho',e'⟩
  ·exact n1 hF
  ·have:=hinj o o' x e e'
   subst this
   exact k o ho ho'
 ·simp only[P5.out,ha,if_true,bL] at k
  show GF l lv=true
  rw[bL]
  intro x hx
  obtain ⟨n1,o,ho,e⟩:=hl x hx
  obtain ⟨b,hb,e'⟩:=hv o (k o ho)
  rw[e] at e'
  cases e'
  exact hb
theorem fH.ok {μ:Nat→Option Nat} {F:Nat→Prop} (hinj:∀ o o' b,μ o=some b→μ o'=some b→o=o') {r r':H2} {q q':P5} (h:fH μ F r q) (h':fH μ F r' q') (k:q.ok q'=true):r.ok r'=true:=by
 obtain ⟨lv,lw,ln,rfl,a1,a2,a3⟩:=h
 obtain ⟨lv',lw',ln',rfl,b1,b2,b3⟩:=h'
 simp only[P5.ok,Bool.and_eq_true] at k
 obtain ⟨⟨k1,k2⟩,k3⟩:=k
 rw[bO5]
 simp only[Bool.and_eq_true]
 refine ⟨⟨b1.out hinj a2 k1,a1.out hinj b2 k2⟩,?_⟩
 rcases a3 with ⟨_,l,rfl,a3⟩|⟨_,⟨m,rfl⟩|⟨m,rfl,a3,a4⟩⟩
 ·have:=b1.out hinj a3 k3
  rcases b1 with ⟨_,lv,rfl,_⟩|⟨_,lv,rfl,_⟩<;>exact this
 ·rcases b1 with ⟨_,lv,rfl,_⟩|⟨_,lv,rfl,_⟩
  ·rw[aG0];exact KR m _
  ·show (Nat.beq m m||_)=true
   rw[j7.2 rfl];rfl
 ·have:=b1.out hinj (l:= [m]) (w:=q.n) (by intro b hb;simp only[List.mem_singleton] at hb;subst hb;exact ⟨a3,a4⟩) k3
  rcases b1 with ⟨_,lv,rfl,_⟩|⟨_,lv,rfl,_⟩
  ·rw[aG0,KQ]
   rw[aA0,W7] at this
   exact this m (by simp)
  ·show (Nat.beq (m+1) m||(Nat.beq (m+1) (m+1) && m8 m lv))=true
   have h2:m8 m lv=true:=by
    have:=(bL [m] lv).1 this m (by simp)
    exact (l8 _ _).2 this
   rw[h2,j7.2 rfl];simp
theorem fH.mk3 {μ:Nat→Option Nat} {F:Nat→Prop} {lv lw ln v w n:List Nat} (h1:∀ b ∈ lv,F b∨∃ o ∈ v,μ o=some b) (h2:∀ b ∈ lw,¬ F b∧∃ o ∈ w,μ o=some b) (h3:∀ b ∈ ln,¬ F b∧∃ o ∈ n,μ o=some b):
  fH μ F ⟨.only lv,.only lw,.fix ln⟩ ⟨v,w,n,false,false⟩:=⟨_,_,_,rfl,.inl ⟨rfl,_,rfl,h1⟩,h2,.inl ⟨rfl,_,rfl,h3⟩⟩
theorem fH.mkr {μ:Nat→Option Nat} {F:Nat→Prop} {lv lw v w n:List Nat} {m:Nat} (h1:∀ b ∈ lv,F b∨∃ o ∈ v,μ o=some b) (h2:∀ b ∈ lw,¬ F b∧∃ o ∈ w,μ o=some b):
  fH μ F ⟨.only lv,.only lw,.rng m m⟩ ⟨v,w,n,false,true⟩:=⟨_,_,_,rfl,.inl ⟨rfl,_,rfl,h1⟩,h2,.inr ⟨rfl,.inl ⟨_,rfl⟩⟩⟩
theorem fH.mono {μ μ':Nat→Option Nat} {F:Nat→Prop} (h:∀ o b,μ o=some b→μ' o=some b) {r:H2} {q:P5}:fH μ F r q→fH μ' F r q:=by
 rintro ⟨lv,lw,ln,e,a1,a2,a3⟩
 refine ⟨lv,lw,ln,e,?_,fun b hb=>⟨(a2 b hb).1,let ⟨o,x,y⟩:=(a2 b hb).2;⟨o,x,h _ _ y⟩⟩,?_⟩
 ·rcases a1 with ⟨ha,l,e1,e2⟩|⟨ha,l,e1,e2⟩
  ·exact .inl ⟨ha,l,e1,fun b hb=>(e2 b hb).imp id fun ⟨o,x,y⟩=>⟨o,x,h _ _ y⟩⟩
  ·exact .inr ⟨ha,l,e1,fun o ho=>let ⟨b,x,y⟩:=e2 o ho;⟨b,x,h _ _ y⟩⟩
 ·rcases a3 with ⟨hr,l,e1,e2⟩|⟨hr,⟨m,e1⟩|⟨m,e1,e2,o,e3,e4⟩⟩
  ·exact .inl ⟨hr,l,e1,fun b hb=>⟨(e2 b hb).1,let ⟨o,x,y⟩:=(e2 b hb).2;⟨o,x,h _ _ y⟩⟩⟩
  ·exact .inr ⟨hr,.inl ⟨m,e1⟩⟩
  ·exact .inr ⟨hr,.inr ⟨m,e1,e2,o,e3,h _ _ e4⟩⟩
inductive M8 (μ:Nat→Option Nat) (F:Nat→Prop):List H2→List P5→Prop
 |nil:M8 μ F [] []
 |cons {r q rs qs}:fH μ F r q→M8 μ F rs qs→M8 μ F (r::rs) (q::qs)
theorem M8.snoc {μ:Nat→Option Nat} {F:Nat→Prop} {r:H2} {q:P5} (h:fH μ F r q):∀ {rs:List H2} {qs:List P5},M8 μ F rs qs→M8 μ F (rs++ [r]) (qs++ [q])
 |_,_,.nil=> .cons h .nil
 |_,_,.cons a b=> .cons a (M8.snoc h b)
theorem M8.get {μ:Nat→Option Nat} {F:Nat→Prop}:∀ {rs:List H2} {qs:List P5},M8 μ F rs qs→∀ {k:Nat} {q:P5},B7 qs k=some q→∃ r,B7 rs k=some r∧fH μ F r q
 |_,_,.nil,k,q,e=>by cases k<;>cases e
 |_,_,.cons a b,0,q,e=>by cases e;exact ⟨_,rfl,a⟩
 |_,_,.cons a b,k+1,q,e=>M8.get b e
theorem M8.mono {μ μ':Nat→Option Nat} {F:Nat→Prop} (h:∀ o b,μ o=some b→μ' o=some b):∀ {rs:List H2} {qs:List P5},M8 μ F rs qs→M8 μ' F rs qs
 |_,_,.nil=> .nil
 |_,_,.cons a b=> .cons (a.mono h) (M8.mono h b)
theorem M8.all {μ:Nat→Option Nat} {F:Nat→Prop} (hinj:∀ o o' b,μ o=some b→μ o'=some b→o=o') {rs:List H2} {qs:List P5} (h:M8 μ F rs qs) {r:H2} {q:P5} (hr:fH μ F r q):∀ {l:List Nat},hO qs q l=true→rI rs r l=true
 | [],_=>rfl
 |k::l,e=>by
  simp only[hO,Bool.and_eq_true] at e
  obtain ⟨e1,e2⟩:=e
  split at e1
  case h_2=>cases e1
  rename_i p hp
  obtain ⟨r',a,b⟩:=h.get hp
  simp only[rI,Bool.and_eq_true,a]
  exact ⟨fH.ok hinj b hr e1,M8.all hinj h hr e2⟩
theorem SR.congr {C:C6} {st:n4} {h h':m0} {n p:Nat} {μ:Nat→Option Nat} {F:Nat→Prop} (hs:SR C st ⟨h,n,p⟩ μ F) (he:∀ i,g9 h' i=g9 h i):SR C st ⟨h',n,p⟩ μ F∧s8 C st ⟨h',n,p⟩ μ F=s8 C st ⟨h,n,p⟩ μ F:=by
 have hl:n7 C.E h'=n7 C.E h:=by
  funext a
  unfold n7
  split
  ·rfl
  ·rw[he]
  ·rfl
 have hw:s8 C st ⟨h',n,p⟩ μ F=s8 C st ⟨h,n,p⟩ μ F:=by
  show (⟨n7 C.E h',F,μ,st.next⟩:VW)=⟨n7 C.E h,F,μ,st.next⟩
  rw[hl]
 refine ⟨⟨fun o ob e hn=>?_,hs.wr,hs.fz,hs.inj,hs.dom,fun b hb=>?_,fun b hb=>?_,fun b hb=>?_,hs.n0,hs.own,fun b blk hb=>?_,hs.pr,hs.pb⟩,hw⟩
 ·rw[hw];simp only[he];exact hs.obj o ob e hn
 ·simp only[he];exact hs.lt b hb
 ·simp only[he];exact hs.cl b hb
 ·simp only[he];exact hs.un b hb
 ·exact hs.hb b blk (by rw[← he];exact hb)
theorem WM (l:List Nat) (h:m0) (i:Nat):pF (A9 l h) i=true→i ∈ l:=by
 intro hk
 induction h with
 |nil=>simp[A9,pF] at hk
 |cons p r ih=>
  obtain ⟨j,b⟩:=p
  simp only[A9] at hk
  split at hk
  ·rename_i hj
   simp only[pF] at hk
   split at hk
   ·rename_i e;rw[j7.1 e];exact (l8 _ _).1 hj
   ·exact ih hk
  ·exact ih hk
theorem nB (h:m0) (i:Nat) {b:w7} (e:g9 h i=some b):pF h i=true:=by
 induction h with
 |nil=>cases e
 |cons p r ih=>
  obtain ⟨j,u⟩:=p
  simp only[g9] at e
  simp only[pF]
  split
  ·rfl
  ·rename_i hj;rw[if_neg hj] at e;exact ih e
theorem WO (L:List Nat) (h:m0) (b:Nat) (blk blk':w7) (n:Nat) (hb:b ∈ L) (he:g9 h b=some blk) (i:Nat):
  g9 (fZ n n (A9 L h) (A1 (A9 L h) b blk')++bZ L h) i=g9 (A1 h b blk') i:=by
 have hkb:g9 (A9 L h) b=some blk:=by rw[s9,if_pos ((l8 _ _).2 hb)];exact he
 rw[W9,cW]
 by_cases hi:i=b
 ·subst hi
  rw[if_pos (.inr (nB _ _ hkb)),M6,hkb,M6,he]
  rfl
 ·rw[Z4 blk' i b hi,Z4 blk' i b hi,s9]
  by_cases hL:i ∈ L
  ·rw[if_pos ((l8 _ _).2 hL),L3]
   have:m8 i L=true:=(l8 _ _).2 hL
   simp only[this]
   cases hg:g9 h i with
   |none=>simp
   |some u=>
    rw[if_pos (.inr (nB _ _ (by rw[s9,if_pos this];exact hg)))]
  ·have hf:m8 i L=false:=cA.2 hL
   rw[if_neg (by rintro (h1|h1);omega;exact hL (WM _ _ _ h1)),L3,hf]
   simp
def aP4 (μ μ':Nat→Option Nat) (k n k' n':Nat):Prop:=(∀ o b,μ o=some b→μ' o=some b)∧(∀ o b,μ' o=some b→μ o=some b∨(k≤o∧n≤b))∧k≤k'∧n≤n'
theorem aP4.rfl (μ:Nat→Option Nat) (k n:Nat):aP4 μ μ k n k n:=⟨fun _ _ e=>e,fun _ _ e=> .inl e,Nat.le_refl _,Nat.le_refl _⟩
section
variable {C:C6}
theorem GA {w:VW}:∀ {ys:List V} {ds:List D} {vs:List Value},FZ ys=some ds→f9 w ys vs→l6 w ds vs∧P1 ds=true∧vs.all B2=true∧vs.length=ys.length∧ds.length=ys.length
 | [],ds,vs,h,hx=>by
  simp only[FZ,Option.some.injEq] at h;subst h
  simp only[f9] at hx;subst hx
  exact ⟨by simp only[l6],rfl,rfl,rfl,rfl⟩
 | .sc x::r,ds,vs,h,hx=>by
  simp only[FZ,Option.map_eq_some_iff] at h
  obtain ⟨d',h1,rfl⟩:=h
  simp only[f9] at hx
  obtain ⟨u,us,rfl,y1,y2⟩:=hx
  obtain ⟨i1,i2,i3,i4,i5⟩:=GA h1 y2
  have hz:=y1.ok
  have he:=y1.scv
  subst he
  refine ⟨?_,?_,by simp[oA u hz,i3],by simp[i4],by simp[i5]⟩
  ·simp only[l6,A5];exact ⟨u,us,rfl,⟨rfl,hz⟩,i1⟩
  ·simpa [P1,yL] using i2
 | .agg _::_,ds,vs,h,hx=>by cases h
 | .tup _::_,ds,vs,h,hx=>by cases h
 | .dead::_,ds,vs,h,hx=>by cases h
 | .tok _::_,ds,vs,h,hx=>by cases h
theorem XZ {st st':n4} {s:St} {μ:Nat→Option Nat} {F:Nat→Prop} {f:D0} {fI fr0:Fr} {o:K8} {hint:Option (List Nat)} {v:V} {q:P5} {conc:List Nat} {rs:List H2}
  (hsr:SR C st s μ F) (hf:FR (s8 C st s μ F) f fI) (h:QI C.E.old f st o hint=some (v,st',q)):
  ∃ vI h' n' r μ',Q8 C.E fr0 s.prot ⟨⟨none,none,o⟩,conc,hint⟩ rs fI s.heap s.next=some (vI,h',n',r)∧SR C st' ⟨h',n',s.prot⟩ μ' F∧d7 (s8 C st' ⟨h',n',s.prot⟩ μ' F) v vI∧VW.le (s8 C st s μ F) (s8 C st' ⟨h',n',s.prot⟩ μ' F)∧
   fH μ' F r q∧aP4 μ μ' st.next s.next st'.next n':=by
 unfold QI at h
 split at h
 ·rename_i k a
  simp only[zO,Option.bind_eq_some_iff,Option.map_eq_some_iff,Prod.mk.injEq] at h
  obtain ⟨u,hu,v',hv,rfl,rfl,rfl⟩:=h
  obtain ⟨uI,a1,a2⟩:=m6 hf hu
  obtain ⟨vI,b1,b2⟩:=xR hsr.hr a2 hv
  split at b1
  case h_2=>cases b1
  rename_i ad
  have hkeep:X0 C.E (A9 (U7 (.pointer (some ad))) s.heap) ad k=X0 C.E s.heap ad k:=by
   obtain ⟨i,j,sp⟩:=ad
   cases sp with
   |none=>cases k<;>rfl
   |some sp=>
    have e:g9 (A9 [i] s.heap) i=g9 s.heap i:=by rw[s9];simp[m8]
    cases k<;>simp only[U7,X0,n7,G6,e]
  refine ⟨vI,s.heap,s.next,⟨.only (U7 (.pointer (some ad))),.only [],.fix []⟩,μ,?_,hsr,b2,VW.le.refl _,.mk3 (fun b hb=>?_) (fun b hb=>(by cases hb)) (fun b hb=>(by cases hb)),.rfl _ _ _⟩
  ·simp only[Q8,a1,Option.bind_some,d6,hkeep,b1,kU,Option.map_some,w6,yK,List.length_nil,Nat.add_zero]
  ·obtain ⟨i,j,sp⟩:=ad
   cases sp with
   |none=>simp[U7] at hb
   |some sp=>
    simp only[U7,List.mem_singleton] at hb
    subst hb
    cases u with
    |ptr o j'=>
     refine .inr ⟨o,by simp[bQ5],?_⟩
     simp only[d7] at a2
     obtain ⟨_,b',e,q⟩:=a2
     cases e
     have hob:∃ ob,i7 st.own o=some ob∧ob.none=false:=by
      simp only[bP] at hv
      split at hv
      ·rename_i he;exact ⟨_,he,rfl⟩
      ·rename_i he;exact ⟨_,he,rfl⟩
      ·rename_i t e z l he
       refine ⟨_,he,?_⟩
       cases l with
       |nil=>
        exfalso
        cases k with
        |none=>simp[B4,B7] at hv
        |some n=>cases n<;>simp[B4,D2] at hv
       |cons=>rfl
      ·cases hv
     obtain ⟨ob,he,hn⟩:=hob
     obtain ⟨b,blk,m1,m2,_⟩:=hsr.obj o ob he hn
     rw[m1,q b m1]
    |dp l o=>
     simp only[d7] at a2
     obtain ⟨a',e,hi,_⟩:=a2
     obtain ⟨ab,ao,asp⟩:=a'
     simp only[A7,Value.pointer.injEq,Option.some.injEq,Addr.mk.injEq] at e
     obtain ⟨rfl,_,rfl⟩:=e
     exact .inl hi
    |sc x=>
     have hx:=a2.ok
     have:=a2.scv
     subst this
     simp[D5] at hx
    |_=>simp[bP] at hv
 ·rename_i n a x
  split at h
  case isFalse=>
   unfold jD at h
   split at h
   case h_2=>cases h
   rename_i _ _ i k ys ha hx
   split at h
   ·rename_i t e l ho
    split at h
    case isFalse=>cases h
    rename_i hc
    simp only[Bool.and_eq_true,Nat.ble_eq] at hc
    obtain ⟨⟨hro,hlen⟩,hsc⟩:=hc
    replace hlen:=j7.1 hlen
    simp only[Option.map_eq_some_iff,Prod.mk.injEq] at h
    obtain ⟨l',hl',rfl,rfl,rfl⟩:=h
    obtain ⟨aI,a1,a2⟩:=m6 hf ha
    obtain ⟨xI,x1,x2⟩:=m6 hf hx
    simp only[d7] at a2 x2
    obtain ⟨_,b',rfl,qq⟩:=a2
    obtain ⟨vs,rfl,x3⟩:=x2
    have hall:vs.all B2=true∧vs.length=ys.length:=by
     clear hlen hl' hx x1
     induction ys generalizing vs with
     |nil=>simp only[f9] at x3;subst x3;exact ⟨rfl,rfl⟩
     |cons y r ih=>
      simp only[f9] at x3
      obtain ⟨u,us,rfl,y1,y2⟩:=x3
      cases y with
      |sc z=>
       have hz:=y1.ok
       rw[y1.scv]
       obtain ⟨i1,i2⟩:=ih hsc us y2
       exact ⟨by simp[oA z hz,i1],by simp[i2]⟩
      |sl a b c=>
       obtain ⟨i1,i2⟩:=ih hsc us y2
       simp only[d7,A5] at y1
       rcases y1 with ⟨_,_,rfl,_⟩|⟨_,_,_,rfl|⟨_,_,_,_,rfl⟩⟩
       all_goals exact ⟨by simp[B2,i1],by simp[i2]⟩
      |_=>cases hsc
    obtain ⟨b,blk,m1,m2,m3⟩:=hsr.obj i _ ho rfl
    obtain ⟨rs',r1,r2⟩:=jQ hl' m3.2.2.2 x3
    have:=qq b m1
    subst this
    obtain ⟨g1,g2,g3⟩:=hsr.upd (fz:= []) (ob':= .box t e l') ho rfl hro m1 m2 rfl (by simp) rfl rfl rfl (fun w' k1 _ _=>(⟨m3.1,m3.2.1,m3.2.2.1,r2.mono k1⟩:fN w' (.box t e l') {blk with cells:=rs'}))
    rw[K3,s5] at g1 g2
    refine ⟨.tuple #[],A1 s.heap b' {blk with cells:=rs'},s.next,⟨.only [b'],.only [b'],.fix []⟩,μ,?_,g1,by simp only[d7,f9];exact ⟨[],rfl,rfl⟩,g2,.mk3 (fun b hb=> .inr ⟨i,by simp,by simp at hb;rw[hb];exact m1⟩) (fun b hb=>⟨by simp at hb;rw[hb];exact (hsr.wr i _ b' ho m1 rfl).1,i,by simp,by simp at hb;rw[hb];exact m1⟩) (fun b hb=>(by cases hb)),.rfl _ _ _⟩
    have e:g9 (A9 [b'] s.heap) b'=some blk:=by rw[s9];simp[m8,m2]
    have hast:=K0 (s:=⟨A9 [b'] s.heap,s.next,s.prot⟩) (k:=k) e g3 hall.1 r1
    simp only[Q8,lW,a1,Option.bind_some,U7,o9,x1,Value.cells,hall.2,hlen,hast,Option.map_some]
    rw[if_pos (j7.2 rfl)]
    simp only[Option.bind_some]
    rw[if_pos (j7.2 rfl),M6,e]
    rfl
   ·rename_i t e g l ho
    split at h
    case isFalse=>cases h
    rename_i hc
    simp only[Bool.and_eq_true,Nat.ble_eq,Bool.not_eq_true',vE] at hc
    obtain ⟨⟨hro,hlen⟩,hn0'⟩:=hc
    replace hlen:=j7.1 hlen
    simp only[Option.bind_eq_some_iff,Option.map_eq_some_iff,Prod.mk.injEq] at h
    obtain ⟨ds,hds,l',hl',rfl,rfl,rfl⟩:=h
    obtain ⟨aI,a1,a2⟩:=m6 hf ha
    obtain ⟨xI,x1,x2⟩:=m6 hf hx
    simp only[d7] at a2 x2
    obtain ⟨_,b',rfl,qq⟩:=a2
    obtain ⟨vs,rfl,x3⟩:=x2
    obtain ⟨z1,z2,z3,z4,z5⟩:=GA hds x3
    obtain ⟨b,blk,m1,m2,m3⟩:=hsr.obj i _ ho rfl
    obtain ⟨rs',r1,r2⟩:=M9 hl' m3.2.2.2 z1
    have:=qq b m1
    subst this
    obtain ⟨g1,g2,g3⟩:=hsr.upd (fz:= []) (ob':= .row t e g false l') ho rfl hro m1 m2 rfl (by simp) rfl rfl (J1 hl' (hsr.own i _ ho).2 z2) (fun w' k1 _ _=>(⟨m3.1,m3.2.1,m3.2.2.1,r2.mono k1⟩:fN w' (.row t e g false l') {blk with cells:=rs'}))
    rw[K3,s5] at g1 g2
    refine ⟨.tuple #[],A1 s.heap b' {blk with cells:=rs'},s.next,⟨.only [b'],.only [b'],.fix []⟩,μ,?_,g1,by simp only[d7,f9];exact ⟨[],rfl,rfl⟩,g2,.mk3 (fun b hb=> .inr ⟨i,by simp,by simp at hb;rw[hb];exact m1⟩) (fun b hb=>⟨by simp at hb;rw[hb];exact (hsr.wr i _ b' ho m1 rfl).1,i,by simp,by simp at hb;rw[hb];exact m1⟩) (fun b hb=>(by cases hb)),.rfl _ _ _⟩
    have e:g9 (A9 [b'] s.heap) b'=some blk:=by rw[s9];simp[m8,m2]
    have hast:=K0 (s:=⟨A9 [b'] s.heap,s.next,s.prot⟩) (k:=k) e g3 z3 r1
    simp only[Q8,lW,a1,Option.bind_some,U7,o9,x1,Value.cells,z4,hlen,hast,Option.map_some]
    rw[if_pos (j7.2 rfl)]
    simp only[Option.bind_some]
    rw[if_pos (j7.2 rfl),M6,e]
    rfl
   ·rename_i t e l ho
    split at h
    case isFalse=>cases h
    rename_i hc
    simp only[Bool.and_eq_true,Nat.ble_eq,Bool.not_eq_true',vE] at hc
    obtain ⟨⟨hro,hlen⟩,hn0'⟩:=hc
    replace hlen:=j7.1 hlen
    simp only[Option.bind_eq_some_iff,Option.map_eq_some_iff,Prod.mk.injEq] at h
    obtain ⟨ds,hds,l',hl',rfl,rfl,rfl⟩:=h
    obtain ⟨aI,a1,a2⟩:=m6 hf ha
    obtain ⟨xI,x1,x2⟩:=m6 hf hx
    simp only[d7] at a2 x2
    obtain ⟨_,b',rfl,qq⟩:=a2
    obtain ⟨vs,rfl,x3⟩:=x2
    obtain ⟨z1,z2,z3,z4,z5⟩:=GA hds x3
    have hl0:=hZ hl'
    have hln:(Obj.gro t e false l).none=false:=by
     cases l with
     |nil=>cases ds with
      |nil=>exact absurd (show n=0 by rw[← hlen,← z5];rfl) hn0'
      |cons d r=>cases k<;>simp[C8,O9] at hl'
     |cons=>rfl
    have hn0:(Obj.gro t e false l').none=false:=by
     cases l with
     |nil=>cases hln
     |cons d r=>cases l' with
      |nil=>simp at hl0
      |cons=>rfl
    obtain ⟨b,blk,m1,m2,m3⟩:=hsr.obj i _ ho hln
    obtain ⟨rs',r1,r2⟩:=M9 hl' m3.2.2.2 z1
    have:=qq b m1
    subst this
    obtain ⟨g1,g2,g3⟩:=hsr.upd (fz:= []) (ob':= .gro t e false l') ho rfl hro m1 m2 rfl (by simp) hn0 rfl (J1 hl' (hsr.own i _ ho).2 z2) (fun w' k1 _ _=>(⟨m3.1,m3.2.1,m3.2.2.1,r2.mono k1⟩:fN w' (.gro t e false l') {blk with cells:=rs'}))
    rw[K3,s5] at g1 g2
    refine ⟨.tuple #[],A1 s.heap b' {blk with cells:=rs'},s.next,⟨.only [b'],.only [b'],.fix []⟩,μ,?_,g1,by simp only[d7,f9];exact ⟨[],rfl,rfl⟩,g2,.mk3 (fun b hb=> .inr ⟨i,by simp,by simp at hb;rw[hb];exact m1⟩) (fun b hb=>⟨by simp at hb;rw[hb];exact (hsr.wr i _ b' ho m1 rfl).1,i,by simp,by simp at hb;rw[hb];exact m1⟩) (fun b hb=>(by cases hb)),.rfl _ _ _⟩
    have e:g9 (A9 [b'] s.heap) b'=some blk:=by rw[s9];simp[m8,m2]
    have hast:=K0 (s:=⟨A9 [b'] s.heap,s.next,s.prot⟩) (k:=k) e g3 z3 r1
    simp only[Q8,lW,a1,Option.bind_some,U7,o9,x1,Value.cells,z4,hlen,hast,Option.map_some]
    rw[if_pos (j7.2 rfl)]
    simp only[Option.bind_some]
    rw[if_pos (j7.2 rfl),M6,e]
    rfl
   ·cases h
  rename_i hn1
  have hn1:=j7.1 hn1
  subst hn1
  unfold EF at h
  split at h
  case h_2=>cases h
  rename_i _ _ i k y ha hx
  obtain ⟨aI,a1,a2⟩:=m6 hf ha
  obtain ⟨xI,x1,x2⟩:=m6 hf hx
  have hy:=x2.ok
  rw[x2.scv] at x1
  simp only[d7] at a2
  obtain ⟨_,b',rfl,qq⟩:=a2
  have hone:y.cells.toList= [y]:=by cases y<;>first|rfl|(simp[D5] at hy)
  have fin:∀ {ob ob':Obj} {blk:w7} {b:Nat} {cs:List Value},i7 st.own i=some ob→ob.fz=false→μ i=some b→g9 s.heap b=some blk→st.ro≤i→ob'.none=false→ob'.fz=false→ob'.ok=true→O9 blk.cells k [y]=some cs→
    (∀ w',VW.le (s8 C st s μ F) w'→fN w' ob' {blk with cells:=cs})→v= .tup []→st'=⟨B5 st.own i ob',st.next,st.ro⟩→q=⟨[i],[i],[],false,false⟩→
    ∃ vI h' n' r μ',Q8 C.E fr0 s.prot ⟨⟨none,none,.store 1 a x⟩,conc,hint⟩ rs fI s.heap s.next=some (vI,h',n',r)∧SR C st' ⟨h',n',s.prot⟩ μ' F∧d7 (s8 C st' ⟨h',n',s.prot⟩ μ' F) v vI∧VW.le (s8 C st s μ F) (s8 C st' ⟨h',n',s.prot⟩ μ' F)∧fH μ' F r q∧aP4 μ μ' st.next s.next st'.next n':=by
   intro ob ob' blk b cs e1 e2 e3 e4 e5 e6 e7 e8 e9 e10 r1 r2 r3
   subst r1 r2 r3
   have:=qq b e3
   subst this
   obtain ⟨g1,g2,g3⟩:=hsr.upd (fz:= []) e1 e2 e5 e3 e4 rfl (by simp) e6 e7 e8 (fun w' k1 _ _=>e10 w' k1)
   rw[K3,s5] at g1 g2
   refine ⟨.tuple #[],A1 s.heap b' {blk with cells:=cs},s.next,⟨.only [b'],.only [b'],.fix []⟩,μ,?_,g1,by simp only[d7,f9];exact ⟨[],rfl,rfl⟩,g2,.mk3 (fun b hb=> .inr ⟨i,by simp,by simp at hb;rw[hb];exact e3⟩) (fun b hb=>⟨by simp at hb;rw[hb];exact (hsr.wr i ob b' e1 e3 e2).1,i,by simp,by simp at hb;rw[hb];exact e3⟩) (fun b hb=>(by cases hb)),.rfl _ _ _⟩
   have e:g9 (A9 [b'] s.heap) b'=some blk:=by rw[s9];simp[m8,e4]
   have hall: [y].all B2=true:=by simp[oA y hy]
   have hast:=K0 (s:=⟨A9 [b'] s.heap,s.next,s.prot⟩) (k:=k) e g3 hall e9
   simp only[Q8,lW,a1,Option.bind_some,U7,o9,x1,hone,List.length_singleton,hast,Option.map_some]
   rw[if_pos (show Nat.beq 1 1=true from rfl)]
   simp only[Option.bind_some]
   rw[if_pos (j7.2 rfl),M6,e]
   rfl
  have hput:∀ {α:Type} (l:List α) (x:α),k<l.length→C8 l k [x]=some (l.set k x):=fun l x hk=>X3 _ _ _ hk
  unfold mT at h
  split at h
  ·rename_i t e g l ho
   split at h
   case isFalse=>cases h
   rename_i hc
   simp only[Bool.and_eq_true,Nat.ble_eq,Nat.blt_eq] at hc
   cases h
   obtain ⟨b,blk,m1,m2,m3⟩:=hsr.obj i _ ho rfl
   obtain ⟨rs',r1,r2⟩:=M9 (hput l (D.sc y) hc.2) m3.2.2.2 (show l6 (s8 C st s μ F) [D.sc y] [y] by simp only[l6,A5];exact ⟨y,[],rfl,⟨rfl,hy⟩,rfl⟩)
   refine fin (ob':= .row t e g false (l.set k (.sc y))) ho rfl m1 m2 hc.1 rfl rfl ?_ r1 (fun w' k1=>⟨m3.1,m3.2.1,m3.2.2.1,r2.mono k1⟩) rfl rfl rfl
   exact J1 (hput l (D.sc y) hc.2) (hsr.own i _ ho).2 rfl
  ·rename_i t e l ho
   split at h
   case isFalse=>cases h
   rename_i hc
   simp only[Bool.and_eq_true,Nat.ble_eq,Nat.blt_eq] at hc
   cases h
   obtain ⟨b,blk,m1,m2,m3⟩:=hsr.obj i _ ho rfl
   obtain ⟨rs',r1,r2⟩:=jQ (hput l (V.sc y) hc.2) m3.2.2.2 (show f9 (s8 C st s μ F) [V.sc y] [y] by simp only[f9,d7];exact ⟨y,[],rfl,⟨rfl,hy⟩,rfl⟩)
   exact fin (ob':= .box t e (l.set k (.sc y))) ho rfl m1 m2 hc.1 rfl rfl rfl r1 (fun w' k1=>⟨m3.1,m3.2.1,m3.2.2.1,r2.mono k1⟩) rfl rfl rfl
  ·rename_i t e l ho
   split at h
   case isFalse=>cases h
   rename_i hc
   simp only[Bool.and_eq_true,Nat.ble_eq,Nat.blt_eq] at hc
   cases h
   have hln:(Obj.gro t e false l).none=false:=by cases l with|nil=>simp at hc|cons=>rfl
   obtain ⟨b,blk,m1,m2,m3⟩:=hsr.obj i _ ho hln
   obtain ⟨rs',r1,r2⟩:=M9 (hput l (D.sc y) hc.2) m3.2.2.2 (show l6 (s8 C st s μ F) [D.sc y] [y] by simp only[l6,A5];exact ⟨y,[],rfl,⟨rfl,hy⟩,rfl⟩)
   refine fin (ob':= .gro t e false (l.set k (.sc y))) ho rfl m1 m2 hc.1 ?_ rfl ?_ r1 (fun w' k1=>⟨m3.1,m3.2.1,m3.2.2.1,r2.mono k1⟩) rfl rfl rfl
   ·cases h1:l.set k (D.sc y) with
    |nil=>have:=congrArg List.length h1;simp at this;subst this;simp at hc
    |cons=>rfl
   ·exact J1 (hput l (D.sc y) hc.2) (hsr.own i _ ho).2 rfl
  ·cases h
 ·rename_i e d x
  unfold ZX at h
  split at h
  case h_2=>cases h
  rename_i _ _ i k n c i2 k2 m c2 hd hx
  split at h
  case h_2=>cases h
  rename_i t e' g l ho
  simp only[Option.bind_eq_some_iff] at h
  obtain ⟨cs,hcs,h⟩:=h
  split at h
  case isFalse=>cases h
  rename_i hcond
  simp only[Bool.and_eq_true,Nat.ble_eq,List.isEmpty_iff] at hcond
  obtain ⟨⟨⟨hro,hok⟩,hfz⟩,hnz⟩:=hcond
  simp only[Option.map_eq_some_iff,Prod.mk.injEq] at h
  obtain ⟨l',hl',rfl,rfl,rfl⟩:=h
  obtain ⟨dI,d1,d2⟩:=m6 hf hd
  obtain ⟨xI,x1,x2⟩:=m6 hf hx
  obtain ⟨us,u1,u2⟩:=(W5 hsr.hr x2 hcs (fun j hj=>by simp only[R6,U6,Option.some.injEq] at hj;subst hj;exact Nat.min_le_left _ _)).plain hsr.hr hfz
  have hob2:∃ ob,i7 st.own i2=some ob:=by
   simp only[K7] at hcs
   cases hob:i7 st.own i2 with
   |none=>rw[hob] at hcs;cases hcs
   |some ob=>exact ⟨ob,rfl⟩
  obtain ⟨ob2,hob2⟩:=hob2
  have hon2:ob2.none=false:=by
   cases ob2 with
   |gro t z e0 l0=>
    cases l0 with
    |cons=>rfl
    |nil=>
     exfalso
     simp only[K7,hob2] at hcs
     split at hcs
     ·rename_i hh
      obtain ⟨h1,h2,h3⟩:=hh
      simp only[List.length_nil,Nat.le_zero,Nat.add_eq_zero_iff] at h1
      rcases Nat.mul_eq_zero.1 h1.2 with h|h
      ·exact h2 h
      ·exact h3 h
     ·cases hcs
   |_=>rfl
  obtain ⟨b,blk,m1,m2,m3⟩:=hsr.obj i _ ho rfl
  obtain ⟨b2,blk2,w1,w2,w3⟩:=hsr.obj i2 _ hob2 hon2
  have hwr2:=hsr.wr i2 ob2 b2 hob2 w1
  simp only[d7] at d2 x2
  obtain ⟨_,_,b',rfl,qd⟩:=d2
  obtain ⟨_,_,b2',rfl,qx⟩:=x2
  have:=qd b m1
  subst this
  have:=qx b2 w1
  subst this
  obtain ⟨rs,r1,r2⟩:=M9 hl' m3.2.2.2 u2
  obtain ⟨g1,g2,g3⟩:=hsr.upd (fz:= []) (ob':= .row t e' g false l') (blk':={blk with cells:=rs}) ho rfl hro m1 m2 rfl (by simp) rfl rfl (J1 hl' (hsr.own i _ ho).2 hok) (fun w' k1 _ _=>⟨m3.1,m3.2.1,m3.2.2.1,r2.mono k1⟩)
  rw[K3,s5] at g1 g2
  have hids:s7 0 (.slice (some ⟨b',k,some 0⟩) n c)++s7 0 (.slice (some ⟨b2',k2,some 0⟩) m c2)= [b',b2']:=by
   simp only[s7,n8,Nat.zero_le,if_true,Nat.ble_eq]
   rfl
  have hkb:g9 (A9 [b',b2'] s.heap) b'=some blk:=by rw[s9,if_pos (by simp[m8])];exact m2
  have hkb2:g9 (A9 [b',b2'] s.heap) b2'=g9 s.heap b2':=by
   rw[s9,if_pos]
   rw[l8]
   simp
  have hsrc:r9 C.E (A9 [b',b2'] s.heap) e (Nat.min m n) (.slice (some ⟨b2',k2,some 0⟩) m c2)=some us:=by
   rw[← u1]
   simp only[r9,G6,hkb2]
  have hast:=K0 (s:=⟨A9 [b',b2'] s.heap,s.next,s.prot⟩) (k:=k) hkb g3 u2.one r1
  have hheap:=WO [b',b2'] s.heap b' blk {blk with cells:=rs} s.next (by simp) m2
  obtain ⟨q1,q2⟩:=SR.congr g1 hheap
  have hz2:ob2.fz=false:=by rw[hob2] at hnz;simpa using hnz
  refine ⟨.int .i64 (Nat.min m n),_,s.next,⟨.only [b',b2'],.only [b',b2'],.rng s.next s.next⟩,μ,?_,q1,?_,?_,.mkr (fun z hz=>?_) (fun z hz=>?_),.rfl _ _ _⟩
  ·simp only[Q8,d1,x1,Option.bind_some,hids,kY,d6,D3,iO]
   rw[if_pos (by rw[Nat.ble_eq];exact hsr.pr)]
   simp only[o9,d1,x1,Option.bind_some,lenA,hsrc,hast,Option.map_some]
   rw[if_pos (by rw[Nat.ble_eq];exact Nat.le_refl _)]
  ·exact .mksc rfl
  ·rw[q2];exact g2
  ·simp only[List.mem_cons,List.not_mem_nil,or_false] at hz
   rcases hz with rfl|rfl
   ·exact .inr ⟨i,by simp,m1⟩
   ·exact .inr ⟨i2,by simp,w1⟩
  ·simp only[List.mem_cons,List.not_mem_nil,or_false] at hz
   rcases hz with rfl|rfl
   ·exact ⟨(hsr.wr i _ z ho m1 rfl).1,i,by simp,m1⟩
   ·exact ⟨(hwr2 hz2).1,i2,by simp,w1⟩
 ·rename_i hnl hns hcp
  split at h
  case isFalse=>cases h
  rename_i hc
  rw[Bool.and_eq_true] at hc
  obtain ⟨hc1,hc2⟩:=hc
  have hh:hint=none:=by cases hint with|none=>rfl|some _=>cases hc1
  subst hh
  have hls:bV7 o=false:=by cases o<;>first|rfl|cases hc2
  have hst:Q8 C.E fr0 s.prot ⟨⟨none,none,o⟩,conc,none⟩ rs fI s.heap s.next=kU (.only []) s.heap s.next (d6 C.E fI ⟨s.heap,s.next,s.next⟩ o):=by
   rw[← WV (h:=s.heap) hc2]
   cases o<;>first|rfl|cases hls
  rw[hst]
  have go:∀ {v2:V} {ob:Option Obj},i6 C.E.old f st.own st.next o=some (v2,ob,[])→∃ vI bs,d6 C.E fI ⟨s.heap,s.next,s.next⟩ o=some (vI,bs)∧kI s.heap (s8 C st s μ F) s.next v2 ob [] vI bs:=fun e=>qE (n:=s.next) (p:=s.next) hsr.hr hf e
  unfold IH at h
  split at h
  ·rename_i v2 e
   simp only[Option.some.injEq,Prod.mk.injEq] at h
   obtain ⟨rfl,rfl,rfl⟩:=h
   obtain ⟨vI,bs,e1,e2⟩:=go e
   obtain ⟨rfl,_,e4⟩:=e2
   exact ⟨vI,s.heap,s.next,⟨.only [],.only [],.fix []⟩,μ,by simp[e1,kU,w6,yK],hsr,e4,VW.le.refl _,.mk3 (fun b hb=>(by cases hb)) (fun b hb=>(by cases hb)) (fun b hb=>(by cases hb)),.rfl _ _ _⟩
  ·rename_i v2 ob e
   simp only[Option.some.injEq,Prod.mk.injEq] at h
   obtain ⟨rfl,rfl,rfl⟩:=h
   obtain ⟨vI,bs,e1,e2⟩:=go e
   obtain ⟨q1,q2,q3,q4⟩:=hsr.push e2 rfl
   rw[K3] at q1 q2 q3
   obtain ⟨_,_,_,blk,rfl,_⟩:=e2
   have hp:st.push (some ob) []=⟨(st.next,ob)::st.own,st.next+1,st.ro⟩:=by simp[n4.push,s5]
   rw[hp] at q1 q2 q3
   refine ⟨vI,w6 s.heap s.next [blk],s.next+1,⟨.only [],.only [],.fix [s.next]⟩,_,by simp[e1,kU,yK],q1,q2,q3,.mk3 (fun b hb=>(by cases hb)) (fun b hb=>(by cases hb)) (fun b hb=>?_),fun o' b e'=>?_,fun o' b e'=>?_,Nat.le_succ _,Nat.le_succ _⟩
   ·simp only[List.mem_singleton] at hb
    subst hb
    exact ⟨fun hF=>Nat.lt_irrefl _ (hsr.lt _ hF).1,st.next,by simp,by simp[KI]⟩
   ·have:=(hsr.dom o' b e').2.1
    simp only[KI]
    rw[if_neg (by omega)]
    exact e'
   ·simp only[KI] at e'
    split at e'
    ·cases e';exact .inr ⟨by omega,Nat.le_refl _⟩
    ·exact .inl e'
  ·cases h
theorem aW (L:List Nat) (b:Nat) (hb:b ∈ L):∀ h:m0,g9 (G0 (A9 L h) b) b=g9 (G0 h b) b
 | []=>rfl
 |(j,u)::r=>by
  simp only[A9,G0]
  by_cases hj:Nat.beq b j=true
  ·have:=j7.1 hj
   subst this
   rw[if_pos ((l8 _ _).2 hb)]
   simp only[G0,if_pos hj]
   rw[s9,if_pos ((l8 _ _).2 hb)]
  ·rw[if_neg hj]
   simp only[g9]
   rw[if_neg hj]
   split
   ·simp only[G0,if_neg hj,g9]
    exact aW L b hb r
   ·exact aW L b hb r
theorem PB (L:List Nat) (h:m0) (b n p:Nat) (blk':w7) (hb:b ∈ L) (i:Nat):
  g9 (fZ n (n+1) (A9 L h) (St.push ⟨G0 (A9 L h) b,n,p⟩ [blk']).heap++bZ L h) i=g9 (St.push ⟨G0 h b,n,p⟩ [blk']).heap i:=by
 simp only[St.push]
 rw[W9,cW,x7,x7]
 by_cases hi:n≤i∧i<n+1
 ·have hi':n≤i∧i<n+ [blk'].length:=hi
  rw[if_pos (.inl hi),if_pos hi',if_pos hi']
  have:i - n=0:=by omega
  rw[this];rfl
 ·have hi':¬ (n≤i∧i<n+ [blk'].length):=hi
  rw[if_neg hi',if_neg hi']
  by_cases hib:i=b
  ·subst hib
   rw[aW L i hb,L3,if_pos ((l8 _ _).2 hb)]
   split<;>rename_i hh
   ·split at hh
    ·rw[hh]
    ·cases hh
   ·split at hh
    ·rw[hh]
    ·rename_i hk
     cases hg:g9 (G0 h i) i with
     |none=>rfl
     |some u=>
      exfalso
      obtain ⟨c,hc⟩:=aX h i i u hg
      exact hk (.inr (nB _ _ (by rw[s9,if_pos ((l8 _ _).2 hb)];exact hc)))
  ·rw[G7 _ _ _ hib,G7 _ _ _ hib,s9,L3]
   by_cases hL:i ∈ L
   ·rw[if_pos ((l8 _ _).2 hL),if_pos ((l8 _ _).2 hL)]
    cases hg:g9 h i with
    |none=>simp
    |some u=>rw[if_pos (.inr (nB _ _ (by rw[s9,if_pos ((l8 _ _).2 hL)];exact hg)))]
   ·have hf:m8 i L=false:=cA.2 hL
    simp only[hf,Bool.false_eq_true,if_false]
    simp
def aP8 (C:C6) (st st':n4) (s:St) (h':m0) (n':Nat) (μ μ':Nat→Option Nat) (F:Nat→Prop) (v:V) (vI:Value) (r:H2) (q:P5):Prop:=
 SR C st' ⟨h',n',s.prot⟩ μ' F∧d7 (s8 C st' ⟨h',n',s.prot⟩ μ' F) v vI∧VW.le (s8 C st s μ F) (s8 C st' ⟨h',n',s.prot⟩ μ' F)∧(∀ ν:Nat→Option Nat,(∀ o b,μ o=some b→ν o=some b)→(∀ o b,μ' o=some b→ν o=some b)→fH ν F r q)∧
  (∀ o b,μ' o=some b→μ o=some b∨(st.next≤o∧s.next≤b))∧st.next≤st'.next∧s.next≤n'
theorem aQ7 {st st':n4} {s:St} {μ:Nat→Option Nat} {F:Nat→Prop} {f:D0} {fI fr0:Fr} {t e b:Nat} {x y:Operand} {hint:Option (List Nat)} {v:V} {q:P5} {conc:List Nat} {rs:List H2}
  (hsr:SR C st s μ F) (hf:FR (s8 C st s μ F) f fI) (h:bE3 st t e b (p7 f x) (p7 f y)=some (v,st',q)):
  ∃ vI h' n' r μ',Q8 C.E fr0 s.prot ⟨⟨none,none,.app t e b x y⟩,conc,hint⟩ rs fI s.heap s.next=some (vI,h',n',r)∧aP8 C st st' s h' n' μ μ' F v vI r q:=by
 unfold bE3 at h
 split at h
 case h_2=>cases h
 rename_i _ _ s' o n o2 k2 m c2 hx hy
 split at h
 case h_2=>cases h
 rename_i _ _ t' e' l t2 e2 g2 l2 ho ho2
 split at h
 case isFalse=>cases h
 rename_i hc
 simp only[Bool.and_eq_true,Bool.not_eq_true',vE,Nat.ble_eq] at hc
 obtain ⟨⟨⟨⟨⟨⟨⟨⟨⟨⟨hro,hn0⟩,hm0⟩,he0⟩,ht⟩,he⟩,hl⟩,hr1⟩,hr2⟩,hk2⟩,hok⟩:=hc
 have ht:=j7.1 ht
 have he:=j7.1 he
 have hl:=j7.1 hl
 subst ht he
 simp only[Option.some.injEq,Prod.mk.injEq] at h
 obtain ⟨rfl,rfl,rfl⟩:=h
 obtain ⟨xI,x1,x2⟩:=m6 hf hx
 obtain ⟨yI,y1,y2⟩:=m6 hf hy
 have hcs:K7 st.own e' m (.ref o2 k2 m c2)=some ((l2.drop k2).take (m*e'),[]):=by
  simp only[K7,ho2]
  rw[if_pos hk2]
 have hlen:=nK y2 (show R6 (.ref o2 k2 m c2)=some m from rfl)
 obtain ⟨us,u1,u2⟩:=(W5 hsr.hr y2 hcs (fun j hj=>by simp only[R6,U6,Option.some.injEq] at hj;subst hj;exact Nat.le_refl _)).plain hsr.hr rfl
 have hln:l ≠ []:=fun e0=>by
  rw[e0] at hl
  have:=Nat.mul_pos (Nat.pos_of_ne_zero hn0) (Nat.pos_of_ne_zero he0)
  simp at hl;omega
 obtain ⟨b0,blk,m1,m2,m3⟩:=hsr.obj o _ ho (O1 hln)
 obtain ⟨b2,blk2,w1,w2,w3⟩:=hsr.obj o2 _ ho2 rfl
 have hcl:=m3.2.2.2.length
 simp only[d7] at x2 y2
 obtain ⟨_,⟨hn,_⟩|⟨_,b',rfl,qx⟩⟩:=x2
 ·exact absurd hn hn0
 obtain ⟨_,_,b2',rfl,qy⟩:=y2
 have:=qx b0 m1
 subst this
 have:=qy b2 w1
 subst this
 obtain ⟨d1,d2,d3⟩:=hsr.del ho rfl hro m1
 have hokl:P1 (l++(l2.drop k2).take (m*e'))=true:=by
  have:=(hsr.own o _ ho).2
  simp only[Obj.ok] at this
  simp only[P1,List.all_append,Bool.and_eq_true];exact ⟨this,hok⟩
 have hne:l++(l2.drop k2).take (m*e') ≠ []:=by simp[hln]
 have hP:kI (G0 s.heap b') (s8 C ⟨J4 o st.own,st.next,st.ro⟩ {s with heap:=G0 s.heap b'} (fun i=>if i=o then none else μ i) F) s.next (.gr 2 st.next (n+m)) (some (.gro t' e' false (l++(l2.drop k2).take (m*e')))) [] (.slice (some ⟨s.next,0,some 0⟩) (n+m) (t8+(n+m))) [⟨blk.cells++us,e',true,t'⟩]:=
  ⟨O1 hne,rfl,hokl,_,rfl,fun w' k1 _ _ k4 k5=>⟨.gr_new k4 k5 (n+m) (by omega),rfl,rfl,rfl,(m3.2.2.2.mono (d2.trans k1)).append (u2.mono (d2.trans k1))⟩⟩
 obtain ⟨p1,p2,p3,p4⟩:=d1.push hP rfl
 rw[K3] at p1 p2 p3
 simp only[n4.push,s5] at p1 p2 p3
 have hids:s7 0 (.slice (some ⟨b',0,some 0⟩) n (t8+n))++s7 0 (.slice (some ⟨b2',k2,some 0⟩) m c2)= [b',b2']:=by
  simp only[s7,n8,Nat.zero_le,if_true,Nat.ble_eq]
  rfl
 have hkb:g9 (A9 [b',b2'] s.heap) b'=some blk:=by rw[s9,if_pos (by simp[m8])];exact m2
 have hkb2:g9 (A9 [b',b2'] s.heap) b2'=g9 s.heap b2':=by
  rw[s9,if_pos]
  rw[l8]
  simp
 have hsrc:r9 C.E (A9 [b',b2'] s.heap) e' m (.slice (some ⟨b2',k2,some 0⟩) m c2)=some us:=by
  rw[← u1]
  simp only[r9,G6,hkb2]
 have hone:us.all B2=true:=u2.one
 have hnb:Nat.blt (t8+n) t8=false:=by rw[← Bool.not_eq_true,Nat.blt_eq];omega
 have h0:¬ Nat.beq m 0=true:=by rw[j7];exact hm0
 have hheap:=PB [b',b2'] s.heap b' s.next s.next ⟨blk.cells++us,e',true,t'⟩ (by simp)
 have p1':SR C _ ⟨(St.push ⟨G0 s.heap b',s.next,s.next⟩ [⟨blk.cells++us,e',true,t'⟩]).heap,s.next+1,s.prot⟩ _ F:=p1
 obtain ⟨q1,q2⟩:=SR.congr p1' hheap
 have hnF:∀ z,μ o2=some z→¬ F z:=fun z hz=>(hsr.wr o2 _ z ho2 hz rfl).1
 have hnF1:∀ z,μ o=some z→¬ F z:=fun z hz=>(hsr.wr o _ z ho hz rfl).1
 refine ⟨.slice (some ⟨s.next,0,some 0⟩) (n+m) (t8+(n+m)),_,s.next+1,⟨.only [b',b2'],.only [b',b2'],.rng s.next (s.next+1)⟩,_,?_,q1,?_,?_,fun ν k1 k2=>?_,fun i z e'=>?_,Nat.le_succ _,Nat.le_succ _⟩
 ·simp only[Q8,x1,y1,Option.bind_some,hids,kY,d6,D3,iO]
  rw[show W6 C.E ⟨A9 [b',b2'] s.heap,s.next,s.next⟩ t' e' b (.slice (some ⟨b',0,some 0⟩) n (t8+n)) (.slice (some ⟨b2',k2,some 0⟩) m c2)=none by
   simp only[W6,hlen,Option.bind_some]
   rw[if_neg h0,if_neg (by simp[hnb])]]
  simp only
  rw[if_pos (by rw[Nat.ble_eq];exact hsr.pr)]
  simp only[o9,x1,y1,Option.bind_some]
  have:fR C.E ⟨A9 [b',b2'] s.heap,s.next,s.prot⟩ t' e' b (.slice (some ⟨b',0,some 0⟩) n (t8+n)) (.slice (some ⟨b2',k2,some 0⟩) m c2)=some (.slice (some ⟨s.next,0,some 0⟩) (n+m) (t8+(n+m)),St.push ⟨G0 (A9 [b',b2'] s.heap) b',s.next,s.prot⟩ [⟨blk.cells++us,e',true,t'⟩]):=by
   simp only[fR,hlen,Option.bind_some]
   rw[if_neg h0,if_pos (by simp only[Bool.and_eq_true,Nat.ble_eq];exact ⟨hr1,hr2⟩),hsrc]
   simp only[Option.bind_some]
   rw[if_pos hone,if_neg (by rw[hnb];simp),if_pos (by rw[Nat.ble_eq];exact d3),hkb]
   simp only[Option.bind_some]
   rw[if_pos (by simp only[Bool.and_eq_true];rw[m3.1,m3.2.1,m3.2.2.1,hcl,hl];refine ⟨⟨⟨⟨rfl,j7.2 rfl⟩,j7.2 rfl⟩,j7.2 (by omega)⟩,j7.2 rfl⟩)]
   rfl
  rw[this]
  simp only[Option.bind_some]
  rw[if_pos (by rw[Nat.ble_eq];exact Nat.le_succ _)]
  rfl
 ·rw[q2];exact p2
 ·rw[q2];exact d2.trans p3
 ·refine ⟨_,_,_,rfl,.inl ⟨rfl,_,rfl,fun z hz=>?_⟩,fun z hz=>?_,.inr ⟨rfl,.inr ⟨_,rfl,fun hF=>Nat.lt_irrefl _ (hsr.lt _ hF).1,st.next,by simp,k2 _ _ (by simp[KI])⟩⟩⟩
  ·simp only[List.mem_cons,List.not_mem_nil,or_false] at hz
   rcases hz with rfl|rfl
   ·exact .inr ⟨o,by simp,k1 _ _ m1⟩
   ·exact .inr ⟨o2,by simp,k1 _ _ w1⟩
  ·simp only[List.mem_cons,List.not_mem_nil,or_false] at hz
   rcases hz with rfl|rfl
   ·exact ⟨hnF1 _ m1,o,by simp,k1 _ _ m1⟩
   ·exact ⟨hnF _ w1,o2,by simp,k1 _ _ w1⟩
 ·simp only[KI] at e'
  split at e'
  ·cases e';exact .inr ⟨by omega,Nat.le_refl _⟩
  ·split at e'
   ·cases e'
   ·exact .inl e'
theorem ID {st st':n4} {s:St} {μ:Nat→Option Nat} {F:Nat→Prop} {f:D0} {fI fr0:Fr} {t e b:Nat} {x y:Operand} {hint:Option (List Nat)} {v:V} {q:P5} {conc:List Nat} {rs:List H2}
  (hsr:SR C st s μ F) (hf:FR (s8 C st s μ F) f fI) {u:V} (hx:p7 f x=some u) (hu:∀ (w:VW) (xI:Value),d7 w u xI→xI= .slice none 0 0) (h:RO st t e b (p7 f y)=some (v,st',q)):
  ∃ vI h' n' r μ',Q8 C.E fr0 s.prot ⟨⟨none,none,.app t e b x y⟩,conc,hint⟩ rs fI s.heap s.next=some (vI,h',n',r)∧aP8 C st st' s h' n' μ μ' F v vI r q:=by
 unfold RO at h
 split at h
 case h_2=>cases h
 rename_i _ o2 k2 m c2 hy
 split at h
 case h_2=>cases h
 rename_i _ t2 e2 g2 l2 ho2
 split at h
 case isFalse=>cases h
 rename_i hc
 simp only[Bool.and_eq_true,Bool.not_eq_true',vE,Nat.ble_eq] at hc
 obtain ⟨⟨⟨⟨⟨hm0,he0⟩,hr1⟩,hr2⟩,hk2⟩,hok⟩:=hc
 simp only[Option.some.injEq,Prod.mk.injEq] at h
 obtain ⟨rfl,rfl,rfl⟩:=h
 obtain ⟨xI,x1,x2⟩:=m6 hf hx
 obtain ⟨yI,y1,y2⟩:=m6 hf hy
 have hxI:=hu _ _ x2
 subst hxI
 have hcs:K7 st.own e m (.ref o2 k2 m c2)=some ((l2.drop k2).take (m*e),[]):=by
  simp only[K7,ho2]
  rw[if_pos hk2]
 have hlen:=nK y2 (show R6 (.ref o2 k2 m c2)=some m from rfl)
 obtain ⟨us,u1,u2⟩:=(W5 hsr.hr y2 hcs (fun j hj=>by simp only[R6,U6,Option.some.injEq] at hj;subst hj;exact Nat.le_refl _)).plain hsr.hr rfl
 obtain ⟨b2,blk2,w1,w2,w3⟩:=hsr.obj o2 _ ho2 rfl
 simp only[d7] at y2
 obtain ⟨_,_,b2',rfl,qy⟩:=y2
 have:=qy b2 w1
 subst this
 have hne:(l2.drop k2).take (m*e) ≠ []:=fun e0=>by
  have h1:=congrArg List.length e0
  have:=Nat.mul_pos (Nat.pos_of_ne_zero hm0) (Nat.pos_of_ne_zero he0)
  simp at h1
  omega
 have hP:kI s.heap (s8 C st s μ F) s.next (.gr 2 st.next m) (some (.gro t e false ((l2.drop k2).take (m*e)))) [] (.slice (some ⟨s.next,0,some 0⟩) m (t8+m)) [⟨us,e,true,t⟩]:=
  ⟨O1 hne,rfl,hok,_,rfl,fun w' k1 _ _ k4 k5=>⟨.gr_new k4 k5 m hm0,rfl,rfl,rfl,u2.mono k1⟩⟩
 obtain ⟨p1,p2,p3,p4⟩:=hsr.push hP rfl
 rw[K3] at p1 p2 p3
 simp only[n4.push,s5] at p1 p2 p3
 have hids:s7 0 (.slice none 0 0)++s7 0 (.slice (some ⟨b2',k2,some 0⟩) m c2)= [b2']:=by
  simp only[s7,n8,Nat.zero_le,if_true,Nat.ble_eq]
  rfl
 have hkb2:g9 (A9 [b2'] s.heap) b2'=g9 s.heap b2':=by
  rw[s9,if_pos]
  rw[l8]
  simp
 have hsrc:r9 C.E (A9 [b2'] s.heap) e m (.slice (some ⟨b2',k2,some 0⟩) m c2)=some us:=by
  rw[← u1]
  simp only[r9,G6,hkb2]
 have h0:¬ Nat.beq m 0=true:=by rw[j7];exact hm0
 refine ⟨.slice (some ⟨s.next,0,some 0⟩) m (t8+m),_,s.next+1,⟨.only [b2'],.only [],.fix [s.next]⟩,_,?_,p1,p2,p3,fun ν k1 k2=>⟨_,_,_,rfl,.inl ⟨rfl,_,rfl,fun z hz=>?_⟩,fun z hz=>(by cases hz),.inl ⟨rfl,_,rfl,fun z hz=>?_⟩⟩,fun i z e'=>?_,Nat.le_succ _,Nat.le_succ _⟩
 ·simp only[Q8,x1,y1,Option.bind_some,hids,kY,d6,D3]
  have:W6 C.E ⟨A9 [b2'] s.heap,s.next,s.next⟩ t e b (.slice none 0 0) (.slice (some ⟨b2',k2,some 0⟩) m c2)=some (.slice (some ⟨s.next,0,some 0⟩) m (t8+m),[⟨us,e,true,t⟩]):=by
   simp only[W6,hlen,Option.bind_some]
   rw[if_neg h0,if_pos (by simp only[Bool.and_eq_true,Nat.ble_eq,Nat.blt_eq,Nat.zero_add];exact ⟨⟨⟨hr1,hr2⟩,by unfold t8;omega⟩,by omega⟩),hsrc]
   simp only[Option.bind_some,r9,Nat.zero_add]
   rfl
  rw[this]
  rfl
 ·simp only[List.mem_singleton] at hz
  subst hz
  exact .inr ⟨o2,by simp,k1 _ _ w1⟩
 ·simp only[List.mem_singleton] at hz
  subst hz
  exact ⟨fun hF=>Nat.lt_irrefl _ (hsr.lt _ hF).1,st.next,by simp,k2 _ _ (by simp[KI])⟩
 ·simp only[KI] at e'
  split at e'
  ·cases e';exact .inr ⟨by omega,Nat.le_refl _⟩
  ·exact .inl e'
theorem ZW {st st':n4} {s:St} {μ:Nat→Option Nat} {F:Nat→Prop} {f:D0} {fI fr0:Fr} {t e b:Nat} {x y:Operand} {hint:Option (List Nat)} {v:V} {q:P5} {conc:List Nat} {rs:List H2}
  (hsr:SR C st s μ F) (hf:FR (s8 C st s μ F) f fI) (h:ZV st t e b (p7 f x) (p7 f y)=some (v,st',q)):
  ∃ vI h' n' r μ',Q8 C.E fr0 s.prot ⟨⟨none,none,.app t e b x y⟩,conc,hint⟩ rs fI s.heap s.next=some (vI,h',n',r)∧aP8 C st st' s h' n' μ μ' F v vI r q:=by
 unfold ZV at h
 split at h
 ·rename_i hx
  exact ID hsr hf hx (fun w xI h=>h.scv) h
 ·rename_i hx
  refine ID hsr hf hx (fun w xI h=>?_) h
  simp only[d7] at h
  obtain ⟨_,⟨_,h|⟨h,_⟩⟩|⟨h,_⟩⟩:=h
  ·exact h
  ·exact absurd rfl h
  ·exact absurd rfl h
 ·exact aQ7 hsr hf h
theorem AH {μ:Nat→Option Nat} {F:Nat→Prop} {rs:List H2} {qs:List P5} (h:M8 μ F rs qs):∀ conc,EQ qs conc=true→FK rs conc= []
 | [],_=>rfl
 |k::r,hk=>by
  simp only[EQ,Bool.and_eq_true] at hk
  obtain ⟨h1,h2⟩:=hk
  cases hq:B7 qs k with
  |none=>rw[hq] at h1;cases h1
  |some q=>
   rw[hq] at h1
   simp only[Bool.and_eq_true,List.isEmpty_iff,Bool.not_eq_true'] at h1
   obtain ⟨w,e1,vv,lw,nw,rfl,_,_,e4⟩:=h.get hq
   rcases e4 with ⟨_,ln,rfl,e5⟩|⟨e5,_⟩
   ·have:ln= []:=by
     cases ln with
     |nil=>rfl
     |cons b r=>
      obtain ⟨_,o,ho,_⟩:=e5 b (by simp)
      rw[h1.1] at ho
      cases ho
    subst this
    simp only[FK,e1,List.nil_append,AH h r h2]
   ·rw[h1.2] at e5;cases e5
theorem bK6 {st:n4} {s:St} {μ ν:Nat→Option Nat} {F:Nat→Prop} {f:D0} {fI fr0:Fr} {o:K8} {hint:Option (List Nat)} {conc:List Nat} {rs:List H2} {qs:List P5} {Q:V→n4→P5→Prop}
  (hsr:SR C st s μ F) (hf:FR (s8 C st s μ F) f fI) (hrs:M8 ν F rs qs) (h:wpS C o hint conc qs f st Q):
  ∃ v st' q vI h' n' r μ',Q8 C.E fr0 s.prot ⟨⟨none,none,o⟩,conc,hint⟩ rs fI s.heap s.next=some (vI,h',n',r)∧aP8 C st st' s h' n' μ μ' F v vI r q∧Q v st' q:=by
 unfold wpS at h
 split at h
 ·rename_i g xs
  obtain ⟨rfl,hfr,args,v,hargs,hsp,hq⟩:=h
  obtain ⟨xsI,a1,a2⟩:=aB hf hargs
  obtain ⟨vI,e1,e2⟩:=hsp ⟨s.heap,s.next,s.next⟩ μ F xsI C.w0 (hsr.enter C.w0) a2
  refine ⟨v,st,_,vI,s.heap,s.next,⟨.but [],.only [],.fix []⟩,μ,?_,⟨hsr,e2 _,VW.le.refl _,fun ν' _ _=>⟨_,_,_,rfl,.inr ⟨rfl,_,rfl,fun z hz=>(by cases hz)⟩,fun z hz=>(by cases hz),.inl ⟨rfl,_,rfl,fun z hz=>(by cases hz)⟩⟩,fun _ _ e=> .inl e,Nat.le_refl _,Nat.le_refl _⟩,hq⟩
  have hnid:=AH hrs conc hfr
  simp only[Q8,EU,hnid,List.nil_append,kY,D3,oY,d6,a1,Option.bind_some]
  rw[show C.E.pcall g xsI ⟨s.heap,s.next,s.next⟩=some (vI,[]) from e1]
  rfl
 ·rename_i hno
  split at h
  case h_2=>exact h.elim
  rename_i v st' q hv
  unfold T5 at hv
  split at hv
  ·obtain ⟨vI,h',n',r,μ',k1,k2⟩:=ZW (fr0:=fr0) (hint:=hint) (conc:=conc) (rs:=rs) hsr hf hv
   exact ⟨v,st',q,vI,h',n',r,μ',k1,k2,h⟩
  ·obtain ⟨vI,h',n',r,μ',k1,k2,k3,k4,k5,k6⟩:=XZ (fr0:=fr0) (conc:=conc) (rs:=rs) hsr hf hv
   exact ⟨v,st',q,vI,h',n',r,μ',k1,⟨k2,k3,k4,fun ν' _ j2=>k5.mono j2,k6.2.1,k6.2.2.1,k6.2.2.2⟩,h⟩
theorem QO (fr0:Fr) (p0:Nat) {F:Nat→Prop}:∀ (l:List qI) {qs:List P5} {rs:List H2} {fr:D0} {st:n4} {Q:D0→n4→Prop} {μ ν:Nat→Option Nat} {frI:Fr} {h:m0} {n:Nat},wpD C l qs fr st Q→
  SR C st ⟨h,n,p0⟩ μ F→FR (s8 C st ⟨h,n,p0⟩ μ F) fr frI→VW.le C.w0 (s8 C st ⟨h,n,p0⟩ μ F)→p0=C.p0→(∀ b,F b→C.w0.F b∨C.p0≤b)→M8 ν F rs qs→
  (∀ o b,μ o=some b→ν o=some b)→(∀ o o' b,ν o=some b→ν o'=some b→o=o')→(∀ o b,ν o=some b→o<st.next∧b<n)→
  ∃ frI' h' n' fr' st',sB C.E fr0 p0 l rs frI h n=some (frI',h',n')∧Rl C st' fr' ⟨h',n',p0⟩ frI'∧Q fr' st'
 | [],qs,rs,fr,st,Q,μ,ν,frI,h,n,hw,h1,h2,h3,h4,h5,h6,_,_,_=>⟨frI,h,n,fr,st,rfl,⟨μ,F,h1,h2,h3,h4,h5⟩,hw⟩
 |⟨⟨d,g,op⟩,conc,hint⟩::l,qs,rs,fr,st,Q,μ,ν,frI,h,n,hw,h1,h2,h3,h4,h5,h6,n1,n2,n3=>by
  have hrl:Rl C st fr ⟨h,n,p0⟩ frI:=⟨μ,F,h1,h2,h3,h4,h5⟩
  have run:(wpS C op hint conc qs (B9 (r4 ⟨d,g,op⟩) fr) st fun v st' r=>hO qs r conc=true∧wpD C l (qs++ [r]) (v9 fr d v) st' Q)→wanted (q9 (r4 ⟨d,g,op⟩) frI) g=some true→
    ∃ frI' h' n' fr' st',sB C.E fr0 p0 (⟨⟨d,g,op⟩,conc,hint⟩::l) rs frI h n=some (frI',h',n')∧Rl C st' fr' ⟨h',n',p0⟩ frI'∧Q fr' st':=by
   intro hq hwt
   obtain ⟨v,st',r,vI,h',n',r',μ',e1,⟨q1,q2,q3,q4,q5,q6,q7⟩,hq1,hq2⟩:=bK6 (fr0:=fr0) h1 (h2.keep (r4 ⟨d,g,op⟩)) h6 hq
   let ν':Nat→Option Nat:=fun o=>match μ' o with|some b=>some b|none=>ν o
   have hq7:n≤n':=q7
   have m1:∀ o b,μ' o=some b→ν' o=some b:=fun o b e=>by simp only[ν',e]
   have m2:∀ o b,ν o=some b→ν' o=some b:=fun o b e=>by
    cases hm:μ' o with
    |none=>simp only[ν',hm];exact e
    |some b'=>
     simp only[ν',hm]
     rcases q5 o b' hm with e'|⟨e',_⟩
     ·rw[n1 o b' e'] at e;exact e
     ·have:=(n3 o b e).1;omega
   have m3:∀ o b,ν' o=some b→μ' o=some b∨(μ' o=none∧ν o=some b):=fun o b e=>by
    cases hm:μ' o with
    |none=>simp only[ν',hm] at e;exact .inr ⟨rfl,e⟩
    |some b'=>simp only[ν',hm] at e;exact .inl e
   have key:∀ o o' b,μ' o=some b→ν o'=some b→o=o':=fun o o' b e e'=>by
    rcases q5 o b e with k|⟨_,k⟩
    ·exact n2 o o' b (n1 o b k) e'
    ·have:=(n3 o' b e').2;exact absurd k (by show ¬ n≤b;omega)
   have m4:∀ o o' b,ν' o=some b→ν' o'=some b→o=o':=fun o o' b e e'=>by
    rcases m3 o b e with a|⟨_,a⟩<;>rcases m3 o' b e' with a'|⟨_,a'⟩
    ·exact q1.inj o o' b a a'
    ·exact key o o' b a a'
    ·exact (key o' o b a' a).symm
    ·exact n2 o o' b a a'
   have m5:∀ o b,ν' o=some b→o<st'.next∧b<n':=fun o b e=>by
    rcases m3 o b e with a|⟨_,a⟩
    ·obtain ⟨d1,d2,_⟩:=q1.dom o b a
     exact ⟨by omega,by omega⟩
    ·have:=n3 o b a;omega
   have hr':=q4 ν' (fun o b e=>m2 o b (n1 o b e)) m1
   have h6':=M8.mono (F:=F) m2 h6
   have hok:=M8.all m4 h6' hr' hq1
   obtain ⟨frI',h'',n'',fr',st'',k1,k2,k3⟩:=QO fr0 p0 l (rs:=rs++ [r']) (frI:=H6 frI d vI) hq2 q1 ((h2.mono q3).put q2 d) (h3.trans q3) h4 h5 (M8.snoc hr' h6') m1 m4 m5
   refine ⟨frI',h'',n'',fr',st'',?_,k2,k3⟩
   simp only[sB,hwt,Option.bind_some]
   rw[XR,e1]
   simp only[Option.bind_some]
   rw[if_pos hok]
   exact k1
  have skip:wpD C l (qs++ [⟨[],[],[],false,false⟩]) (v9 fr d (.tup [])) st Q→wanted (q9 (r4 ⟨d,g,op⟩) frI) g=some false→
    ∃ frI' h' n' fr' st',sB C.E fr0 p0 (⟨⟨d,g,op⟩,conc,hint⟩::l) rs frI h n=some (frI',h',n')∧Rl C st' fr' ⟨h',n',p0⟩ frI'∧Q fr' st':=by
   intro hq hwt
   obtain ⟨frI',h'',n'',fr',st'',k1,k2,k3⟩:=QO fr0 p0 l (rs:=rs++ [⟨.only [],.only [],.fix []⟩]) (frI:=H6 frI d (.tuple #[])) hq h1 (h2.put (by simp only[d7,f9];exact ⟨[],rfl,rfl⟩) d) h3 h4 h5 (M8.snoc (.mk3 (fun b hb=>(by cases hb)) (fun b hb=>(by cases hb)) (fun b hb=>(by cases hb))) h6) n1 n2 n3
   refine ⟨frI',h'',n'',fr',st'',?_,k2,k3⟩
   simp only[sB,hwt,Option.bind_some]
   exact k1
  simp only[wpD] at hw
  split at hw
  ·exact run hw rfl
  ·rename_i _ t want
   have ht:t ∈ r4 ⟨d,some (t,want),op⟩:=by simp[r4]
   split at hw
   ·rename_i b hb
    have hb':=(cV hrl hb).1 b rfl
    split at hw
    ·rename_i hbw
     exact run hw (by simp only[wanted];rw[I7 _ _ _ ht,hb'];simp[hbw])
    ·rename_i hbw
     have hbw':(b==want)=false:=by simpa using hbw
     exact skip hw (by simp only[wanted];rw[I7 _ _ _ ht,hb'];simp[hbw'])
   ·rename_i l' hb
    obtain ⟨l2,hb'⟩:=(cV hrl hb).2 l' rfl
    exact skip hw (by simp only[wanted];rw[I7 _ _ _ ht,hb'];rfl)
   ·exact hw.elim
def gD (C:C6) (l:List qI) (rs:List P5) (tail:List j9) (ks:List Nat) (K:List KF) (fr:D0) (st:n4) (P:A3):Prop:=wpD C l rs fr st fun fr st=>gO C tail ks K fr st P
def gDV (C:C6) (r:Option (V × n4 × P5)) (conc:List Nat) (d:Option Nat) (l:List qI) (rs:List P5) (tail:List j9) (ks:List Nat) (K:List KF) (fr:D0) (P:A3):Prop:=
 match r with|some (v,st',r)=>hO rs r conc=true∧gD C l (rs++ [r]) tail ks K (v9 fr d v) st' P|none=>False
def gDG (C:C6) (v:Option V) (want:Bool) (r:Option (V × n4 × P5)) (conc:List Nat) (d:Option Nat) (l:List qI) (rs:List P5) (tail:List j9) (ks:List Nat) (K:List KF) (fr:D0) (st:n4) (P:A3):Prop:=
 match v with
 |some (.sc (.bool b))=>if b==want then gDV C r conc d l rs tail ks K fr P else gD C l (rs++ [⟨[],[],[],false,false⟩]) tail ks K (v9 fr d (.tup [])) st P
 |some (.tup _)=>gD C l (rs++ [⟨[],[],[],false,false⟩]) tail ks K (v9 fr d (.tup [])) st P
 |_=>False
variable {K:List KF} {fr:D0} {st:n4} {P:A3}
theorem C3 {pre:List qI} {tail:List j9} {ks:List Nat} (h:gD C pre [] tail ks K fr st P):gC C (.drawW pre tail ks) K fr st P:=by
 unfold gC
 simp only[GN]
 rintro frI s ⟨μ,F,h1,h2,h3,h4,h5⟩
 obtain ⟨frI',h',n',fr',st',e,g1,g2⟩:=QO frI s.prot pre (rs:= []) (ν:=μ) h h1 h2 h3 h4 h5 .nil (fun _ _ e=>e) h1.inj (fun o b e=>by obtain ⟨d1,d2,_⟩:=h1.dom o b e;exact ⟨by omega,by omega⟩)
 unfold gO at g2
 obtain ⟨frI2,s2,fr2,st2,e2,k1,k2⟩:=mB tail g2 g1
 refine ⟨.normal,q9 ks frI2,s2,?_,B9 ks fr2,st2,k1.keep ks,k2⟩
 simp only[z9,e,Option.bind_some]
 rw[e2]
 rfl
theorem aC0 (rs:List P5) (tail:List j9) (ks:List Nat):gD C [] rs tail ks K fr st P=gO C tail ks K fr st P:=(rfl)
def FL:K8→Bool
 | .callF _ _=>false
 |_=>true
theorem VF (o:K8) (ho:FL o=true) (hint:Option (List Nat)) (conc:List Nat) (rs:List P5) (f:D0) (Q:V→n4→P5→Prop):wpS C o hint conc rs f st Q=match T5 C.E.old f st o hint with|some (v,st',r)=>Q v st' r|none=>False:=by
 cases o<;>first|rfl|cases ho
theorem SH (d:Option Nat) (o:K8) (ho:FL o=true) (conc:List Nat) (hint:Option (List Nat)) (l:List qI) (rs:List P5) (tail:List j9) (ks:List Nat):gD C (⟨⟨d,none,o⟩,conc,hint⟩::l) rs tail ks K fr st P=gDV C (T5 C.E.old (B9 (a8 (b8 o)) fr) st o hint) conc d l rs tail ks K fr P:=by
 unfold gD gDV
 simp only[wpD,cF,VF o ho]
 rfl
theorem JC (d:Option Nat) (t:Nat) (want:Bool) (o:K8) (ho:FL o=true) (conc:List Nat) (hint:Option (List Nat)) (l:List qI) (rs:List P5) (tail:List j9) (ks:List Nat):
  gD C (⟨⟨d,some (t,want),o⟩,conc,hint⟩::l) rs tail ks K fr st P=gDG C (i7 fr t) want (T5 C.E.old (B9 (a8 (b8 o)++ [t]) fr) st o hint) conc d l rs tail ks K fr st P:=by
 unfold gD gDG gDV
 simp only[wpD,r4,VF o ho]
 rfl
theorem JB (v:V) (st':n4) (r:P5) (conc:List Nat) (d:Option Nat) (l:List qI) (rs:List P5) (tail:List j9) (ks:List Nat) (h:hO rs r conc=true):gDV C (some (v,st',r)) conc d l rs tail ks K fr P=gD C l (rs++ [r]) tail ks K (v9 fr d v) st' P:=by
 simp only[gDV,h,true_and]
theorem SG (b:Bool) (r:Option (V × n4 × P5)) (conc:List Nat) (d:Option Nat) (l:List qI) (rs:List P5) (tail:List j9) (ks:List Nat):gDG C (some (.sc (.bool b))) b r conc d l rs tail ks K fr st P=gDV C r conc d l rs tail ks K fr P:=by simp[gDG]
theorem aB9 (r:Option (V × n4 × P5)) (conc:List Nat) (d:Option Nat) (l:List qI) (rs:List P5) (tail:List j9) (ks:List Nat):gDG C (some (.sc (.bool true))) false r conc d l rs tail ks K fr st P=gD C l (rs++ [⟨[],[],[],false,false⟩]) tail ks K (v9 fr d (.tup [])) st P:=(rfl)
theorem aB8 (r:Option (V × n4 × P5)) (conc:List Nat) (d:Option Nat) (l:List qI) (rs:List P5) (tail:List j9) (ks:List Nat):gDG C (some (.sc (.bool false))) true r conc d l rs tail ks K fr st P=gD C l (rs++ [⟨[],[],[],false,false⟩]) tail ks K (v9 fr d (.tup [])) st P:=(rfl)
theorem SF (a:List V) (want:Bool) (r:Option (V × n4 × P5)) (conc:List Nat) (d:Option Nat) (l:List qI) (rs:List P5) (tail:List j9) (ks:List Nat):gDG C (some (.tup a)) want r conc d l rs tail ks K fr st P=gD C l (rs++ [⟨[],[],[],false,false⟩]) tail ks K (v9 fr d (.tup [])) st P:=(rfl)
end
section
variable {old:Nat→Nat→Option Value} {f:D0} {st:n4}
theorem UV (k:Option Nat) (a:Operand) (h:Option (List Nat)):T5 old f st (.load k a) h=zO old st k (p7 f a):=(rfl)
theorem NE (a x:Operand) (h:Option (List Nat)):T5 old f st (.store 1 a x) h=EF st (p7 f a) (p7 f x):=(rfl)
theorem XY (n:Nat) (hn:Nat.beq n 1=false) (a x:Operand) (h:Option (List Nat)):T5 old f st (.store n a x) h=jD st n (p7 f a) (p7 f x):=by
 show (if Nat.beq n 1 then _ else _)=_
 rw[hn];rfl
theorem UU (e:Nat) (a x:Operand) (h:Option (List Nat)):T5 old f st (.copy e a x) h=ZX st e (p7 f a) (p7 f x):=(rfl)
theorem UW (o:K8) (ho:PG o=true):T5 old f st o none=IH st (i6 old f st.own st.next o):=by
 cases o<;>first|rfl|cases ho
def dLd (st:n4) (v:Option V) (l:List Nat):Option (V × n4 × P5):=v.map fun v=>(v,st,⟨l,[],[],false,false⟩)
theorem IE (v:V) (l:List Nat):dLd st (some v) l=some (v,st,⟨l,[],[],false,false⟩):=(rfl)
theorem zP (k:Option Nat) (o j:Nat):zO old st k (some (.ptr o j))=dLd st (bQ old st.own k (some (.ptr o j))) [o]:=(rfl)
theorem IF (k:Option Nat) (l:List D) (j:Nat):zO old st k (some (.dp l j))=dLd st (bQ old st.own k (some (.dp l j))) []:=(rfl)
theorem IG (k:Option Nat) (x:Value):zO old st k (some (.sc x))=dLd st (bQ old st.own k (some (.sc x))) []:=(rfl)
theorem zW (o k:Nat) (y:Value):EF st (some (.ptr o k)) (some (.sc y))=mT st o k y (i7 st.own o):=(rfl)
theorem zV (o k t e:Nat) (g:Bool) (l:List D) (y:Value) (hro:st.ro≤o) (hk:k<l.length):mT st o k y (some (.row t e g false l))=some (.tup [],⟨B5 st.own o (.row t e g false (l.set k (.sc y))),st.next,st.ro⟩,⟨[o],[o],[],false,false⟩):=by
 simp only[mT]
 rw[if_pos (by simp only[Bool.and_eq_true,Nat.ble_eq,Nat.blt_eq];exact ⟨hro,hk⟩)]
theorem zU (o k t e:Nat) (l:List D) (y:Value) (hro:st.ro≤o) (hk:k<l.length):mT st o k y (some (.gro t e false l))=some (.tup [],⟨B5 st.own o (.gro t e false (l.set k (.sc y))),st.next,st.ro⟩,⟨[o],[o],[],false,false⟩):=by
 simp only[mT]
 rw[if_pos (by simp only[Bool.and_eq_true,Nat.ble_eq,Nat.blt_eq];exact ⟨hro,hk⟩)]
theorem zR (o k t e:Nat) (l:List V) (y:Value) (hro:st.ro≤o) (hk:k<l.length):mT st o k y (some (.box t e l))=some (.tup [],⟨B5 st.own o (.box t e (l.set k (.sc y))),st.next,st.ro⟩,⟨[o],[o],[],false,false⟩):=by
 simp only[mT]
 rw[if_pos (by simp only[Bool.and_eq_true,Nat.ble_eq,Nat.blt_eq];exact ⟨hro,hk⟩)]
theorem tW (v:V):IH st (some (v,none,[]))=some (v,st,⟨[],[],[],false,false⟩):=(rfl)
theorem zQ (v:V) (ob:Obj):IH st (some (v,some ob,[]))=some (v,⟨(st.next,ob)::st.own,st.next+1,st.ro⟩,⟨[],[],[st.next],false,false⟩):=(rfl)
end
theorem tX {w:VW}:∀ {L:List D} {vs:List Value},l6 w L vs→(∀ d ∈ L,∃ x,d= .sc x)→(∀ n,z0 n vs= [])∧(∀ f,R7 f vs=vs)∧∀ w',l6 w' L vs
 | [],vs,h,_=>by simp only[l6] at h;subst h;exact ⟨fun _=>rfl,fun _=>rfl,fun w'=>by simp only[l6]⟩
 |d::r,vs,h,hs=>by
  simp only[l6] at h
  obtain ⟨v,vs',rfl,h1,h2⟩:=h
  obtain ⟨a1,a2,a3⟩:=tX h2 fun d hd=>hs d (List.mem_cons_of_mem _ hd)
  obtain ⟨x,rfl⟩:=hs d (List.mem_cons_self ..)
  simp only[A5] at h1
  obtain ⟨rfl,hx⟩:=h1
  have hren:∀ f,P9 f v=v:=fun f=>LK (T3 0 v hx)
  exact ⟨fun n=>by simp[z0,T3 n v hx,a1 n],fun f=>by simp[R7,hren f,a2 f],fun w'=>by simp only[l6];exact ⟨v,vs',rfl,by simp only[A5,hx,and_self],a3 w'⟩⟩
section
variable {old:Nat→Nat→Option Value} {rounds:Nat} {fns:FuncId→Option p5} {prims:FuncId→List Value→St→Option (Value × List w7)} {n:Nat} {f:FuncId} {xs:List V} {af:p5}
end
theorem sY {α:Type} {r:List (Nat × α)} {i:Nat} {v:α} (h:(i7 r i).isSome=true):i7 (B5 r i v) i=some v:=by
 obtain ⟨u,hu⟩:=Option.isSome_iff_exists.1 h
 exact DM hu
theorem NS:O5 []= .tup []:=(rfl)
section
variable {C:C6} {st:n4}
theorem jY {a a' b:V} (h:bX C st a a'):bX C st (.tup [a,b]) (.tup [a',b]):=by
 intro s μ F u h1 hv
 simp only[d7,f9] at hv ⊢
 obtain ⟨vs,rfl,v1,_,rfl,q1,v2,_,rfl,q2,rfl⟩:=hv
 exact ⟨_,rfl,v1,_,rfl,h s μ F v1 h1 q1,v2,_,rfl,q2,rfl⟩
end
theorem VV0:type_of% (And.intro @aC3 (And.intro @aC4 (And.intro @qX (And.intro @uN (And.intro @fD (And.intro @kO (And.intro @mZ (And.intro @SC (And.intro @aB5 (And.intro @SA (And.intro @aB6 (And.intro @IZ (And.intro @aB4 (And.intro @RY (And.intro @ES (And.intro @uM (And.intro @SB (And.intro @RZ (And.intro @aC5 (And.intro @JE (And.intro @aC0 (And.intro @SH (And.intro @JC (And.intro @JB (And.intro @SG (And.intro @aB9 (And.intro @aB8 (And.intro @SF (And.intro @UV (And.intro @NE (And.intro @UW (And.intro @zP (And.intro @IF (And.intro @IG (And.intro @IE (And.intro @zW (And.intro @zV (And.intro @zU (And.intro @zR (@tW)))))))))))))))))))))))))))))))))))))))):=
 And.intro @aC3 (And.intro @aC4 (And.intro @qX (And.intro @uN (And.intro @fD (And.intro @kO (And.intro @mZ (And.intro @SC (And.intro @aB5 (And.intro @SA (And.intro @aB6 (And.intro @IZ (And.intro @aB4 (And.intro @RY (And.intro @ES (And.intro @uM (And.intro @SB (And.intro @RZ (And.intro @aC5 (And.intro @JE (And.intro @aC0 (And.intro @SH (And.intro @JC (And.intro @JB (And.intro @SG (And.intro @aB9 (And.intro @aB8 (And.intro @SF (And.intro @UV (And.intro @NE (And.intro @UW (And.intro @zP (And.intro @IF (And.intro @IG (And.intro @IE (And.intro @zW (And.intro @zV (And.intro @zU (And.intro @zR (@tW)))))))))))))))))))))))))))))))))))))))
theorem VV1:type_of% (And.intro @zQ (And.intro @JG (And.intro @JF (And.intro @AJ (And.intro @JD (And.intro @SI (And.intro @rE (And.intro @KW (And.intro @yU (And.intro @aH3 (And.intro @HZ (And.intro @IA (And.intro @DG (And.intro @NO (And.intro @UU (And.intro @CT (And.intro @tE (And.intro @SJ (And.intro @JH (And.intro @aC2 (And.intro @bA3 (And.intro @bA2 (And.intro @aC1 (And.intro @SV (And.intro @aC9 (And.intro @SS (And.intro @SU (And.intro @SQ (And.intro @uL (And.intro @SD (And.intro @SE (And.intro @JA (And.intro @aC8 (And.intro @SP (And.intro @JN (And.intro @JO (And.intro @JP (And.intro @JM (And.intro @SO (@JI)))))))))))))))))))))))))))))))))))))))):=
 And.intro @zQ (And.intro @JG (And.intro @JF (And.intro @AJ (And.intro @JD (And.intro @SI (And.intro @rE (And.intro @KW (And.intro @yU (And.intro @aH3 (And.intro @HZ (And.intro @IA (And.intro @DG (And.intro @NO (And.intro @UU (And.intro @CT (And.intro @tE (And.intro @SJ (And.intro @JH (And.intro @aC2 (And.intro @bA3 (And.intro @bA2 (And.intro @aC1 (And.intro @SV (And.intro @aC9 (And.intro @SS (And.intro @SU (And.intro @SQ (And.intro @uL (And.intro @SD (And.intro @SE (And.intro @JA (And.intro @aC8 (And.intro @SP (And.intro @JN (And.intro @JO (And.intro @JP (And.intro @JM (And.intro @SO (@JI)))))))))))))))))))))))))))))))))))))))
theorem VV2:type_of% (And.intro @JJ (And.intro @JK (And.intro @SN (And.intro @JL (And.intro @aC7 (And.intro @aC6 (And.intro @SM (And.intro @nM (And.intro @uX (And.intro @BE (And.intro @BU (And.intro @nX (And.intro @wE (And.intro @xU (And.intro @xV (And.intro @rW (And.intro @NT (And.intro @NU (And.intro @LZ (And.intro @bC9 (And.intro @KN (And.intro @KO (And.intro @TP (And.intro @TO (And.intro @TN (And.intro @HK (And.intro @HJ (And.intro @zD (And.intro @DA (And.intro @DB (And.intro @CZ (And.intro @bB9 (And.intro @LP (And.intro @LQ (And.intro @BV (And.intro @LO (And.intro @xQ (And.intro @DE (And.intro @vL (@vN)))))))))))))))))))))))))))))))))))))))):=
 And.intro @JJ (And.intro @JK (And.intro @SN (And.intro @JL (And.intro @aC7 (And.intro @aC6 (And.intro @SM (And.intro @nM (And.intro @uX (And.intro @BE (And.intro @BU (And.intro @nX (And.intro @wE (And.intro @xU (And.intro @xV (And.intro @rW (And.intro @NT (And.intro @NU (And.intro @LZ (And.intro @bC9 (And.intro @KN (And.intro @KO (And.intro @TP (And.intro @TO (And.intro @TN (And.intro @HK (And.intro @HJ (And.intro @zD (And.intro @DA (And.intro @DB (And.intro @CZ (And.intro @bB9 (And.intro @LP (And.intro @LQ (And.intro @BV (And.intro @LO (And.intro @xQ (And.intro @DE (And.intro @vL (@vN)))))))))))))))))))))))))))))))))))))))
theorem VV3:type_of% (And.intro @vM (And.intro @tL (And.intro @tM (And.intro @oX (And.intro @bA0 (And.intro @bA1 (And.intro @QY (And.intro @U3 (And.intro @aM5 (And.intro @zN (And.intro @Z8 (And.intro @AF (And.intro @IT (And.intro @uD (And.intro @uE (And.intro @AP (And.intro @JS (And.intro @JT (And.intro @AO (And.intro @IR (And.intro @KH (And.intro @KC (And.intro @AZ (And.intro @KB (And.intro @BA (And.intro @AY (And.intro @BB (And.intro @IM (And.intro @wO (And.intro @aH7 (And.intro @UC (And.intro @KV (And.intro @aH2 (And.intro @KX (And.intro @LD (And.intro @TZ (And.intro @BN (And.intro @aH1 (And.intro @aH4 (@LB)))))))))))))))))))))))))))))))))))))))):=
 And.intro @vM (And.intro @tL (And.intro @tM (And.intro @oX (And.intro @bA0 (And.intro @bA1 (And.intro @QY (And.intro @U3 (And.intro @aM5 (And.intro @zN (And.intro @Z8 (And.intro @AF (And.intro @IT (And.intro @uD (And.intro @uE (And.intro @AP (And.intro @JS (And.intro @JT (And.intro @AO (And.intro @IR (And.intro @KH (And.intro @KC (And.intro @AZ (And.intro @KB (And.intro @BA (And.intro @AY (And.intro @BB (And.intro @IM (And.intro @wO (And.intro @aH7 (And.intro @UC (And.intro @KV (And.intro @aH2 (And.intro @KX (And.intro @LD (And.intro @TZ (And.intro @BN (And.intro @aH1 (And.intro @aH4 (@LB)))))))))))))))))))))))))))))))))))))))
theorem VV4:type_of% (And.intro @bB5 (And.intro @KY (And.intro @KZ (And.intro @aH0 (And.intro @vV (And.intro @UE (And.intro @aH8 (And.intro @UD (And.intro @TT (And.intro @TU (And.intro @TX (And.intro @TV (And.intro @BM (And.intro @TY (And.intro @aH5 (And.intro @UA (And.intro @UB (And.intro @aH6 (And.intro @bB4 (And.intro @aG9 (And.intro @TS (And.intro @LA (And.intro @rF (And.intro @vG (And.intro @vH (And.intro @LE (And.intro @wL (And.intro @CD (And.intro @LG (And.intro @xA (And.intro @xC (And.intro @vU (And.intro @mX (And.intro @mY (And.intro @LC (And.intro @qS (And.intro @eG (And.intro @Z3 (And.intro @W1 (@iZ)))))))))))))))))))))))))))))))))))))))):=
 And.intro @bB5 (And.intro @KY (And.intro @KZ (And.intro @aH0 (And.intro @vV (And.intro @UE (And.intro @aH8 (And.intro @UD (And.intro @TT (And.intro @TU (And.intro @TX (And.intro @TV (And.intro @BM (And.intro @TY (And.intro @aH5 (And.intro @UA (And.intro @UB (And.intro @aH6 (And.intro @bB4 (And.intro @aG9 (And.intro @TS (And.intro @LA (And.intro @rF (And.intro @vG (And.intro @vH (And.intro @LE (And.intro @wL (And.intro @CD (And.intro @LG (And.intro @xA (And.intro @xC (And.intro @vU (And.intro @mX (And.intro @mY (And.intro @LC (And.intro @qS (And.intro @eG (And.intro @Z3 (And.intro @W1 (@iZ)))))))))))))))))))))))))))))))))))))))
theorem VV5:type_of% (And.intro @cB (And.intro @Z2 (And.intro @qQ (And.intro @aF1 (And.intro @aF0 (And.intro @LF (And.intro @TR (And.intro @UF (And.intro @NZ (And.intro @aP1 (And.intro @VG (And.intro @VH (And.intro @wY (And.intro @MK (And.intro @ML (And.intro @wV (And.intro @wU (And.intro @CM (And.intro @rQ (And.intro @NC (And.intro @HA (And.intro @ND (And.intro @CU (And.intro @CV (And.intro @tD (And.intro @qL (And.intro @qK (And.intro @mL (And.intro @pZ (And.intro @MI (And.intro @MJ (And.intro @CK (And.intro @CJ (And.intro @CL (And.intro @CI (And.intro @CH (And.intro @qM (And.intro @MH (And.intro @UQ (@aL7)))))))))))))))))))))))))))))))))))))))):=
 And.intro @cB (And.intro @Z2 (And.intro @qQ (And.intro @aF1 (And.intro @aF0 (And.intro @LF (And.intro @TR (And.intro @UF (And.intro @NZ (And.intro @aP1 (And.intro @VG (And.intro @VH (And.intro @wY (And.intro @MK (And.intro @ML (And.intro @wV (And.intro @wU (And.intro @CM (And.intro @rQ (And.intro @NC (And.intro @HA (And.intro @ND (And.intro @CU (And.intro @CV (And.intro @tD (And.intro @qL (And.intro @qK (And.intro @mL (And.intro @pZ (And.intro @MI (And.intro @MJ (And.intro @CK (And.intro @CJ (And.intro @CL (And.intro @CI (And.intro @CH (And.intro @qM (And.intro @MH (And.intro @UQ (@aL7)))))))))))))))))))))))))))))))))))))))
theorem VV6:type_of% (And.intro @QE (And.intro @aL8 (And.intro @MW (And.intro @MU (And.intro @RX (And.intro @aB1 (And.intro @aB3 (And.intro @aB2 (And.intro @j8 (And.intro @sI (And.intro @FH (And.intro @DF (And.intro @VB (And.intro @VA (And.intro @SZ (And.intro @TA (And.intro @TB (And.intro @jK (And.intro @BK (And.intro @mJ (And.intro @m7 (And.intro @HB (And.intro @tH (And.intro @tG (And.intro @tF (And.intro @oM (And.intro @sY (And.intro @NS (And.intro @HC (And.intro @U1 (And.intro @GU (And.intro @sX (And.intro @yS (And.intro @qJ (And.intro @uH (And.intro @gB (And.intro @IY (And.intro @IX (And.intro @IW (@AA)))))))))))))))))))))))))))))))))))))))):=
 And.intro @QE (And.intro @aL8 (And.intro @MW (And.intro @MU (And.intro @RX (And.intro @aB1 (And.intro @aB3 (And.intro @aB2 (And.intro @j8 (And.intro @sI (And.intro @FH (And.intro @DF (And.intro @VB (And.intro @VA (And.intro @SZ (And.intro @TA (And.intro @TB (And.intro @jK (And.intro @BK (And.intro @mJ (And.intro @m7 (And.intro @HB (And.intro @tH (And.intro @tG (And.intro @tF (And.intro @oM (And.intro @sY (And.intro @NS (And.intro @HC (And.intro @U1 (And.intro @GU (And.intro @sX (And.intro @yS (And.intro @qJ (And.intro @uH (And.intro @gB (And.intro @IY (And.intro @IX (And.intro @IW (@AA)))))))))))))))))))))))))))))))))))))))
theorem VV7:type_of% (And.intro @qP (And.intro @UZ (And.intro @UX (And.intro @NF (And.intro @UY (And.intro @NK (And.intro @NJ (And.intro @NI (And.intro @NH (And.intro @xM (And.intro @NG (And.intro @NL (And.intro @tT (And.intro @CY (And.intro @AR (And.intro @CW (And.intro @CX (And.intro @oD (And.intro @qO (And.intro @kX (And.intro @NN (And.intro @DD (And.intro @xO (And.intro @DC (And.intro @xP (And.intro @NM (And.intro @BL (And.intro @vS (And.intro @aR (And.intro @cU (And.intro @aZ4 (And.intro @aZ3 (And.intro @aZ2 (And.intro @aZ1 (And.intro @aZ0 (And.intro @aZ6 (And.intro @aY9 (And.intro @aZ7 (And.intro @aZ5 (@yV)))))))))))))))))))))))))))))))))))))))):=
 And.intro @qP (And.intro @UZ (And.intro @UX (And.intro @NF (And.intro @UY (And.intro @NK (And.intro @NJ (And.intro @NI (And.intro @NH (And.intro @xM (And.intro @NG (And.intro @NL (And.intro @tT (And.intro @CY (And.intro @AR (And.intro @CW (And.intro @CX (And.intro @oD (And.intro @qO (And.intro @kX (And.intro @NN (And.intro @DD (And.intro @xO (And.intro @DC (And.intro @xP (And.intro @NM (And.intro @BL (And.intro @vS (And.intro @aR (And.intro @cU (And.intro @aZ4 (And.intro @aZ3 (And.intro @aZ2 (And.intro @aZ1 (And.intro @aZ0 (And.intro @aZ6 (And.intro @aY9 (And.intro @aZ7 (And.intro @aZ5 (@yV)))))))))))))))))))))))))))))))))))))))
theorem VV8:type_of% (And.intro @yW (And.intro @OH (And.intro @YU (And.intro @QQ (And.intro @bC7 (And.intro @bC6 (And.intro @rH (And.intro @BD (And.intro @BC (And.intro @vA (@uZ))))))))))):=
 And.intro @yW (And.intro @OH (And.intro @YU (And.intro @QQ (And.intro @bC7 (And.intro @bC6 (And.intro @rH (And.intro @BD (And.intro @BC (And.intro @vA (@uZ))))))))))
theorem VV9:type_of% (And.intro @Bool.false_eq_true (And.intro @Bool.not_true (And.intro @Bool.not_false (And.intro @Int.toNat_natCast (And.intro @Nat.zero_add (And.intro @Nat.add_zero (And.intro @Nat.mul_one (And.intro @Int.add_sub_cancel (And.intro @Bool.and_true (And.intro @Bool.true_and (And.intro @Bool.and_self (And.intro @true_or (And.intro @not_true_eq_false (And.intro @not_false_eq_true (And.intro @decide_true (And.intro @decide_false (And.intro @Option.map_some.{0,0} (And.intro @Option.bind_some.{0,0} (And.intro @List.cons_append.{0} (And.intro @List.nil_append.{0} (And.intro @List.map_cons.{0,0} (And.intro @List.map_nil.{0,0} (And.intro @List.append_nil.{0} (And.intro @Option.toList_some.{0} (And.intro @Option.toList_none.{0} (And.intro @if_true.{1} (And.intro @if_false.{1} (And.intro @List.length_cons.{0} (And.intro @List.length_nil.{0} (And.intro @List.length_singleton.{0} (And.intro @eq_self.{1} (And.intro @List.drop_zero.{0} (And.intro @List.drop_succ_cons.{0} (And.intro @Option.some.injEq.{0} (And.intro @Prod.mk.injEq.{0,0} (And.intro @List.set_cons_zero.{0} (@List.set_cons_succ.{0}))))))))))))))))))))))))))))))))))))):=
 And.intro @Bool.false_eq_true (And.intro @Bool.not_true (And.intro @Bool.not_false (And.intro @Int.toNat_natCast (And.intro @Nat.zero_add (And.intro @Nat.add_zero (And.intro @Nat.mul_one (And.intro @Int.add_sub_cancel (And.intro @Bool.and_true (And.intro @Bool.true_and (And.intro @Bool.and_self (And.intro @true_or (And.intro @not_true_eq_false (And.intro @not_false_eq_true (And.intro @decide_true (And.intro @decide_false (And.intro @Option.map_some.{0,0} (And.intro @Option.bind_some.{0,0} (And.intro @List.cons_append.{0} (And.intro @List.nil_append.{0} (And.intro @List.map_cons.{0,0} (And.intro @List.map_nil.{0,0} (And.intro @List.append_nil.{0} (And.intro @Option.toList_some.{0} (And.intro @Option.toList_none.{0} (And.intro @if_true.{1} (And.intro @if_false.{1} (And.intro @List.length_cons.{0} (And.intro @List.length_nil.{0} (And.intro @List.length_singleton.{0} (And.intro @eq_self.{1} (And.intro @List.drop_zero.{0} (And.intro @List.drop_succ_cons.{0} (And.intro @Option.some.injEq.{0} (And.intro @Prod.mk.injEq.{0,0} (And.intro @List.set_cons_zero.{0} (@List.set_cons_succ.{0}))))))))))))))))))))))))))))))))))))
theorem d9:type_of% (And.intro (@List.length_map.{0,0}) (And.intro (@List.length_set.{0}) (And.intro (@List.length_replicate.{0}) (And.intro (@List.length_cons.{0}) (And.intro (@List.length_nil.{0}) (@List.length_append.{0})))))):=
 And.intro (@List.length_map.{0,0}) (And.intro (@List.length_set.{0}) (And.intro (@List.length_replicate.{0}) (And.intro (@List.length_cons.{0}) (And.intro (@List.length_nil.{0}) (@List.length_append.{0})))))
def f7 (d:Nat) (p:K8):j9:=⟨some d,none,p⟩
def d8 (d k:Nat):j9:=⟨some d,none,.mov (.tmp k)⟩
def Y0 (d k j:Nat):j9:=⟨some d,none,.ext (.tmp k) j⟩
def V8 (d f k:Nat):j9:=⟨some d,none,.callF f [.tmp k]⟩
def A0 (d k:Nat):j9:=⟨some d,none,.load none (.tmp k)⟩
def y9 (d j k:Nat):j9:=⟨some d,none,.fldA j (.tmp k)⟩
def p9 (n:Int):Operand:=.const (.int .i64 n)
def G4 (n:Int):Operand:=.const (.int .u8 n)
def B8 (d g:Nat) (p:K8):j9:=⟨some d,some (g,false),p⟩
def r8 (d g:Nat) (p:K8):j9:=⟨some d,some (g,true),p⟩
def o8 (d k:Nat) (b:BinOp) (x:Operand):j9:=⟨some d,none,.bin b (.tmp k) x⟩
def A2 (d:Nat) (n:Int):j9:=⟨some d,none,.mov (.const (.int .i64 n))⟩
def zT (k:Nat):Operand:=.tmp k
def zt:Operand:=.const (.bool true)
def zf:Operand:=.const (.bool false)
def zS (l:List j9) (ks:List Nat) (c:AC):AC:=.seq (.ops l ks) c
def zC (k:Nat) (a b:AC):AC:=.cond (.tmp k) a b
theorem WA:type_of% (And.intro @zT.eq_1 (And.intro @zt.eq_1 (And.intro @zf.eq_1 (And.intro @zS.eq_1 (And.intro @zC.eq_1 (And.intro @f7.eq_1 (And.intro @d8.eq_1 (And.intro @Y0.eq_1 (And.intro @V8.eq_1 (And.intro @A0.eq_1 (And.intro @y9.eq_1 (And.intro @p9.eq_1 (And.intro @G4.eq_1 (And.intro @B8.eq_1 (And.intro @r8.eq_1 (And.intro @o8.eq_1 (And.intro @A2.eq_1 (And.intro VV0 (And.intro VV1 (And.intro VV2 (And.intro VV3 (And.intro VV4 (And.intro VV5 (And.intro VV6 (And.intro VV7 (And.intro VV8 (And.intro VV9 (And.intro @KG.eq_1 (And.intro @T9.eq_1 (And.intro @T9.eq_2 (And.intro @YL.eq_1 (And.intro @lU.eq_1 (And.intro @S9.eq_1 (@S9.eq_2)))))))))))))))))))))))))))))))))):=And.intro @zT.eq_1 (And.intro @zt.eq_1 (And.intro @zf.eq_1 (And.intro @zS.eq_1 (And.intro @zC.eq_1 (And.intro @f7.eq_1 (And.intro @d8.eq_1 (And.intro @Y0.eq_1 (And.intro @V8.eq_1 (And.intro @A0.eq_1 (And.intro @y9.eq_1 (And.intro @p9.eq_1 (And.intro @G4.eq_1 (And.intro @B8.eq_1 (And.intro @r8.eq_1 (And.intro @o8.eq_1 (And.intro @A2.eq_1 (And.intro VV0 (And.intro VV1 (And.intro VV2 (And.intro VV3 (And.intro VV4 (And.intro VV5 (And.intro VV6 (And.intro VV7 (And.intro VV8 (And.intro VV9 (And.intro @KG.eq_1 (And.intro @T9.eq_1 (And.intro @T9.eq_2 (And.intro @YL.eq_1 (And.intro @lU.eq_1 (And.intro @S9.eq_1 (@S9.eq_2)))))))))))))))))))))))))))))))))
end Go.Itp
namespace Go.Itp
open Go.RowKit (Below)
set_option linter.unusedVariables false
def RP (st:n4) (n o k:Nat) (ys:List V):Option Obj→Option (V × n4 × P5)
 |some (.box t e l)=>if Nat.ble st.ro o && Nat.beq ys.length n && aV4 ys then (C8 l k ys).map fun l=>(.tup [],⟨B5 st.own o (.box t e l),st.next,st.ro⟩,⟨[o],[o],[],false,false⟩) else none
 |some (.row t e g false l)=>if Nat.ble st.ro o && Nat.beq ys.length n && !Nat.beq n 0 then (FZ ys).bind fun ds=>(C8 l k ds).map fun l=>(.tup [],⟨B5 st.own o (.row t e g false l),st.next,st.ro⟩,⟨[o],[o],[],false,false⟩) else none
 |some (.gro t e false l)=>if Nat.ble st.ro o && Nat.beq ys.length n && !Nat.beq n 0 then (FZ ys).bind fun ds=>(C8 l k ds).map fun l=>(.tup [],⟨B5 st.own o (.gro t e false l),st.next,st.ro⟩,⟨[o],[o],[],false,false⟩) else none
 |_=>none
theorem OS (st:n4) (n o k:Nat) (ys:List V):jD st n (some (.ptr o k)) (some (.agg ys))=RP st n o k ys (i7 st.own o):=by
 simp only[jD]
 cases i7 st.own o with
 |none=>rfl
 |some ob=>cases ob with
  |box=>rfl
  |row t e g z l=>cases z<;>rfl
  |gro t e z l=>cases z<;>rfl
end Go.Itp
namespace Go.Itp
open Go.ChangeShapes Go.WideShapes Go.ChangeAt Go.RowKit
set_option linter.unusedVariables false

end Go.Itp
namespace Go.Itp
set_option linter.unusedVariables false
set_option linter.constructorNameAsVariable false
section
variable {C:C6} {st:n4} {fr:D0}
theorem wK {s n:Nat} {l:List D} (h:s ≠ 1∨n ≠ 0):bX C st (.sl s n l) (.sl 3 n l):=by
 intro s' μ F u h1 hv
 simp only[d7,A5] at hv ⊢
 rcases hv with ⟨a,c,rfl,i,k,r,q⟩|⟨h2,rfl,rfl,rfl|⟨h3,_⟩⟩
 ·exact .inl ⟨a,c,rfl,i,k,r,fun h=>by cases h⟩
 ·exact .inr ⟨by omega,rfl,rfl,.inl rfl⟩
 ·rcases h with h|h
  ·exact absurd h3 h
  ·exact absurd rfl h
theorem CC:bX C st (.sc (.slice none 0 0)) (.sl 3 0 []):=by
 intro s μ F u h1 hv
 rw[hv.scv]
 simp only[d7,A5]
 refine .inr ⟨by omega,?_,?_,.inl ?_⟩<;>trivial
theorem iQ {v:V} {x:Value} {s n:Nat} {l:List D} (hs:B1 st.own v=some (.sl s n l)) (hrow:B0 st.ro st.own (bS v)=true) (hk:s ≠ 1∨n ≠ 0) (h0:C.w0.nx=0) (hro:st.ro=0):L2 C [(0,.tup [v,.sc x])] st [(0,.tup [.sl 3 n l,.sc x])] ⟨[],0,0⟩:=by
 have e1:bS (.tup [v,.sc x])=bS v:=by simp[bS,R5]
 have e2:B1 st.own (.tup [v,.sc x])=some (.tup [.sl s n l,.sc x]):=by simp[B1,Q6,hs]
 refine (kH (t:=0) (v:= .tup [v,.sc x]) rfl e2 (by rw[e1];exact hrow)).trans ?_
 refine (S6 (t:=0) (v:= .tup [.sl s n l,.sc x]) (v':= .tup [.sl 3 n l,.sc x]) rfl (jY (wK hk))).trans ?_
 exact o7 [] 0 h0 hro rfl rfl rfl
theorem O6 {x:Value} (h0:C.w0.nx=0) (hro:st.ro=0):L2 C [(0,.tup [.sc (.slice none 0 0),.sc x])] st [(0,.tup [.sl 3 0 [],.sc x])] ⟨[],0,0⟩:=
 (S6 (t:=0) (v:= .tup [.sc (.slice none 0 0),.sc x]) (v':= .tup [.sl 3 0 [],.sc x]) rfl (jY CC)).trans (o7 [] 0 h0 hro rfl rfl rfl)
theorem jT {n:Nat} {l:List D} {x:Value}:kJ [] (.tup [.sl 3 n l,.sc x]):=pR (by simp only[Cl,OB,and_true];rfl)
theorem aO6 {o t e:Nat} {z:Bool} {l:List D} (h:i7 st.own o=some (.row t e true z l)) (hl:l ≠ []):L2 C fr st fr ⟨B5 st.own o (.gro t e z l),st.next,st.ro⟩:=by
 rintro s frI ⟨μ,F,h1,hf,h3⟩
 have hgn:(Obj.gro t e z l).none=false:=by cases l with|nil=>exact absurd rfl hl|cons=>rfl
 have hown:∀ i ob,i7 (B5 st.own o (.gro t e z l)) i=some ob→(i=o∧ob= .gro t e z l)∨(i ≠ o∧i7 st.own i=some ob):=fun i ob e'=>by
  rw[F6 _ _ _ _ _ h] at e'
  split at e'
  ·rename_i hi;cases e';exact .inl ⟨hi,rfl⟩
  ·rename_i hi;exact .inr ⟨hi,e'⟩
 refine ⟨μ,F,⟨?_,?_,?_,h1.inj,?_,h1.lt,h1.cl,h1.un,h1.n0,?_,h1.hb,h1.pr,h1.pb⟩,hf,h3⟩
 ·intro i ob e' hn
  rcases hown i ob e' with ⟨rfl,rfl⟩|⟨hi,e1⟩
  ·obtain ⟨b,blk,m1,m2,m3⟩:=h1.obj i _ h rfl
   exact ⟨b,blk,m1,m2,m3.1,m3.2.1,m3.2.2.1,m3.2.2.2⟩
  ·exact h1.obj i ob e1 hn
 ·intro i ob b e' e2 hz
  rcases hown i ob e' with ⟨rfl,rfl⟩|⟨hi,e1⟩
  ·exact h1.wr i _ b h e2 hz
  ·exact h1.wr i ob b e1 e2 hz
 ·intro i ob b e' e2 hz
  rcases hown i ob e' with ⟨rfl,rfl⟩|⟨hi,e1⟩
  ·exact h1.fz i _ b h e2 hz
  ·exact h1.fz i ob b e1 e2 hz
 ·intro i b e'
  obtain ⟨d1,d2,ob,d3,d4⟩:=h1.dom i b e'
  by_cases hi:i=o
  ·subst hi;exact ⟨d1,d2,_,by simp only;rw[F6 _ _ _ _ _ h,if_pos rfl],hgn⟩
  ·exact ⟨d1,d2,ob,by simp only;rw[F6 _ _ _ _ _ h,if_neg hi];exact d3,d4⟩
 ·intro i ob e'
  rcases hown i ob e' with ⟨rfl,rfl⟩|⟨hi,e1⟩
  ·exact ⟨(h1.own i _ h).1,(h1.own i _ h).2⟩
  ·exact h1.own i ob e1
theorem aV2 {o n:Nat} (hn:n ≠ 0):bX C st (.ref o 0 n (t8+n)) (.gr 2 o n):=by
 intro s' μ F u h1 hv
 simp only[d7] at hv ⊢
 obtain ⟨q1,_,b',rfl,q⟩:=hv
 exact ⟨q1,.inr ⟨hn,b',rfl,q⟩⟩
end
section
variable {C:C6} {st:n4} {fr:D0}
end
section
variable {old:Nat→Nat→Option Value} {rounds:Nat} {fns:FuncId→Option p5} {prims:FuncId→List Value→St→Option (Value × List w7)} {n:Nat} {f:FuncId} {C:C6} {st:n4}
end
section
variable {C:C6} {st:n4}
end
section
variable {old:Nat→Nat→Option Value} {rounds:Nat} {fns:FuncId→Option p5} {prims:FuncId→List Value→St→Option (Value × List w7)} {n:Nat} {f:FuncId} {xs:List V} {v:V} {st st1:n4} {af:p5} {C:C6}
end
def iD (x:Int):D:= .sc (.int .i64 x)
def RdV (st:n4) (v:V) (l:List Int):Prop:=(∃ s,v= .sl s l.length (l.map iD))∨(∃ s o t z,v= .gr s o l.length∧i7 st.own o=some (.gro t 1 z (l.map iD)))∨(∃ o c t g z,v= .ref o 0 l.length c∧i7 st.own o=some (.row t 1 g z (l.map iD)))∨(v= .sc (.slice none 0 0)∧l= [])
structure Rdv (H:D6) (v:V) (l:List Int) (p:Nat→V):Prop where
 len:nL false v=some (.sc (.int .i64 l.length))
 idx:∀ i:Int,0≤i→i<l.length→gQ 1 v (.sc (.int .i64 i))=some (p i.toNat)
 ld:∀ (old:Nat→Nat→Option Value) (k:Nat),k<l.length→bQ old H none (some (p k))=some (.sc (.int .i64 l[k]!))
theorem RdV.sl (st:n4) (s:Nat) (l:List Int):RdV st (.sl s l.length (l.map iD)) l:= .inl ⟨s,rfl⟩
theorem RdV.gr {st:n4} {s o t:Nat} {z:Bool} {l:List Int} (h:i7 st.own o=some (.gro t 1 z (l.map iD))):RdV st (.gr s o l.length) l:= .inr (.inl ⟨s,o,t,z,rfl,h⟩)
theorem RdV.ref {st:n4} {o c t:Nat} {g z:Bool} {l:List Int} (h:i7 st.own o=some (.row t 1 g z (l.map iD))):RdV st (.ref o 0 l.length c) l:= .inr (.inr (.inl ⟨o,c,t,g,z,rfl,h⟩))
set_option maxRecDepth 100000
set_option linter.unusedSimpArgs false
section
variable {old:Nat→Nat→Option Value} {rounds:Nat} {fns:FuncId→Option p5} {prims:FuncId→List Value→St→Option (Value × List w7)} {n:Nat} {f:FuncId} {C:C6} {st:n4}
end

def join (c:UInt8):List (List UInt8)→List UInt8
 | []=> []
 | [w]=>w
 |w::v::ws=>w++c::join c (v::ws)
theorem I5.env {E E':D9} {f:FuncId} {st:n4} {xs:List V} {v:V} (h:I5 E f st xs v) (hp:E'.pcall=E.pcall) (ho:E'.old=E.old):I5 E' f st xs v:=by
 have ha:n7 E'=n7 E:=tB ho
 intro s μ F xsI w0 hsr hx
 have hw:s8 (C1 E' s w0) ⟨st.own,st.next,st.next⟩ ⟨s.heap,s.next,s.next⟩ μ F=s8 (C1 E s w0) ⟨st.own,st.next,st.next⟩ ⟨s.heap,s.next,s.next⟩ μ F:=by
  show (⟨n7 E' s.heap,F,μ,st.next⟩:VW)=⟨n7 E s.heap,F,μ,st.next⟩
  rw[ha]
 have hsr':SR (C1 E s w0) ⟨st.own,st.next,st.next⟩ ⟨s.heap,s.next,s.next⟩ μ F:=hsr.env (C':=C1 E s w0) ha.symm rfl rfl rfl
 obtain ⟨vI,e,hv⟩:=h s μ F xsI w0 hsr' (by rw[← hw];exact hx)
 exact ⟨vI,by rw[hp];exact e,hv⟩
theorem mA {C:C6} {fr:D0} {st:n4} (ks:List Nat) {fr':D0} (h:B9 ks fr=fr'):L2 C fr st fr' st:=by
 subst h
 rintro s frI ⟨μ,F,h1,hf,h3⟩
 exact ⟨μ,F,h1,fun t v e=>hf t v (dS ks fr t v e).1,h3⟩
section
variable {C:C6} {st:n4} {fr:D0}
end
end Go.Itp
namespace Go.Itp
open Go.Lib
set_option linter.unusedVariables false
def bA7 (b:UInt8):Bool:=decide (48≤b.toNat) && decide (b.toNat≤57)
end Go.Itp
namespace Go.Itp
open Go.ChangeShapes Go.WideShapes Go.ChangeAt Go.RowKit
set_option linter.unusedVariables false
theorem RT {α β:Type} {g:α→List β} {q:Nat} (hq:0<q):∀ (l:List α),(∀ a ∈ l,(g a).length=q)→∀ i j,j<q→(l.flatMap g)[i*q+j]? =(l[i]?).bind fun a=>(g a)[j]?
 | [],_,i,j,_=>by simp
 |a::r,h,i,j,hj=>by
  have ha:=h a (by simp)
  rw[List.flatMap_cons]
  cases i with
  |zero=>
   rw[Nat.zero_mul,Nat.zero_add,List.getElem?_append_left (by omega)]
   simp
  |succ i=>
   have ih:=RT hq r (fun b hb=>h b (List.mem_cons_of_mem _ hb)) i j hj
   rw[Nat.succ_mul,List.getElem?_append_right (by rw[ha];omega),ha,show i*q+q+j - q=i*q+j by omega,ih]
   simp
theorem QV {v:Value} (h:D5 v=true):R3 v=v:=by
 unfold R3
 split
 ·simp[D5] at h
 ·rfl
section
variable {H:Type} {enc:TypeId × Value→H} {P:Program} {W:World} {base:Nat} {held:Bool}
theorem ZM {w:World} {b:Nat} {a:Addr} {n:Nat} {cs:List Value} (h:w.cells? b a n=some cs):cs.length=n∧∀ j,j<n→w.cell? (a.add j)=cs[j]? :=by
 unfold World.cells? at h
 split at h
 case isFalse=>cases h
 refine ⟨by rw[Lib.mapM_length h,List.length_range],fun j hj=>?_⟩
 obtain ⟨c,h1,h2⟩:=Lib.mapM_at h j j (by rw[List.getElem?_eq_getElem (by simpa using hj)];simp)
 rw[h2,h1]
theorem PQ {α:Type} [Inhabited α] {g:α→List Value} {q:Nat} (hq:0<q) (hg:∀ a,(g a).length=q∧∀ c ∈ g a,D5 c=true) {t e:TypeId} {fuel:Nat} {v:Value} {x:DataW H × List MemPlace} (ht:P.underlying t=some (.slice e)) (hc:P.cellsOf e=q) (hby:0<P.bytesOf e)
  (hspot:∀ a n c,v= .slice (some a) n c→a.spot=none)
  (h:DataW.trod enc P W base (fun _=>true) held fuel t [v]=some x) (hsz:∀ n ∈ x.1.weights P t,n≤reachBytes)
  (hdec:∀ (cs:List Value) (n:Nat) (y:DataW H × List MemPlace),cs.length=q→DataW.trod enc P W base (fun _=>true) held n e cs=some y→∃ a,cs=g a):
  ∃ l:List α,d7 (QM (L0 W)) (.sl 3 l.length (l.flatMap fun a=>(g a).map D.sc)) v∧s7 0 v= []∧l.length*P.bytesOf e≤reachBytes:=by
 rcases DataW.trod_slice ht h with ⟨h1,_⟩|⟨a,len,cap,elems,rest,n,rfl,h1,rfl,hb,hl,hm,hlen,hel,hsp,_⟩
 ·simp only[List.cons.injEq,and_true] at h1
  subst h1
  refine ⟨[],?_,rfl,by simp⟩
  simp only[d7,A5]
  exact .inr ⟨by omega,by trivial,by trivial,.inl (by trivial)⟩
 ·simp only[List.cons.injEq,and_true] at h1
  subst h1
  have hs:=hspot a len cap rfl
  obtain ⟨b,o,sp⟩:=a
  simp only at hs
  subst hs
  obtain ⟨hr1,hr2⟩:=hsp rfl
  have hmax:cap*P.bytesOf e≤reachBytes:=by
   have:=hsz ((elems.length+rest.length)*P.bytesOf e) (by simp[DataW.weights,ht])
   rwa [show elems.length+rest.length=cap by omega] at this
  have hcap:cap≤cap*P.bytesOf e:=Nat.le_mul_of_pos_right _ hby
  have hbig:reachBytes<t8:=by decide
  have hone:∀ i,∃ a:α,i<len→∀ j,j<q→W.cell? ⟨b,o+(i*q+j),none⟩=(g a)[j]? :=fun i=>by
   by_cases hi:i<len
   ·have:=hel i hi
    rw[hc,List.getElem?_eq_getElem (by omega)] at this
    simp only[Option.bind_eq_some_iff] at this
    obtain ⟨cs,h2,h3⟩:=this
    obtain ⟨k1,k2⟩:=ZM h2
    obtain ⟨a,rfl⟩:=hdec cs n _ k1 h3
    refine ⟨a,fun _ j hj=>?_⟩
    have:=k2 j hj
    rw[← this]
    rw[add_plain,add_plain,Nat.add_assoc]
   ·exact ⟨default,fun h=>absurd h hi⟩
  let f:Nat→α:=fun i=>Classical.choose (hone i)
  have hf:∀ i,i<len→∀ j,j<q→W.cell? ⟨b,o+(i*q+j),none⟩=(g (f i))[j]? :=fun i=>Classical.choose_spec (hone i)
  let l:List α:=(List.range len).map f
  have hll:l.length=len:=by simp[l]
  let vals:List Value:=l.flatMap g
  have hvl:vals.length=len*q:=by
   have:∀ l:List α,(l.flatMap g).length=l.length*q:=fun l=>by
    induction l with
    |nil=>simp
    |cons a l ih=>rw[List.flatMap_cons,List.length_append,ih,(hg a).1,List.length_cons,Nat.succ_mul];omega
   rw[show vals.length=l.length*q from this l,hll]
  have hcell:∀ k (hk:k<vals.length),W.cell? ⟨b,o+k,none⟩=some vals[k]:=fun k hk=>by
   rw[hvl] at hk
   have hi:k / q<len:=Nat.div_lt_of_lt_mul (by rw[Nat.mul_comm];exact hk)
   have hj:k % q<q:=Nat.mod_lt _ hq
   have hkk:k / q*q+k % q=k:=by rw[Nat.mul_comm];exact Nat.div_add_mod k q
   have e1:=hf (k / q) hi (k % q) hj
   have e2:=RT (g:=g) hq l (fun a _=>(hg a).1) (k / q) (k % q) hj
   rw[hkk] at e1 e2
   have e3:l[k / q]? =some (f (k / q)):=by simp[l,hi]
   rw[e3,Option.bind_some] at e2
   rw[e1,← e2]
   exact List.getElem?_eq_getElem (by rw[hvl];exact hk)
  have hvs:∀ c ∈ vals,D5 c=true:=fun c hcm=>by
   simp only[vals,List.mem_flatMap] at hcm
   obtain ⟨a,_,ha⟩:=hcm
   exact (hg a).2 c ha
  have hmap:(l.flatMap fun a=>(g a).map D.sc)=vals.map D.sc:=by simp only[vals,List.map_flatMap]
  refine ⟨l,?_,rfl,by rw[hll];exact Nat.le_trans (Nat.mul_le_mul_right _ hl) hmax⟩
  rw[hmap,hll]
  simp only[d7,A5]
  refine .inl ⟨⟨b,o,none⟩,cap,rfl,trivial,?_,?_,by omega⟩
  ·unfold F8 y8
   rw[if_pos (by rw[Nat.blt_eq];omega)]
   exact hl
  ·have:=zZ (W:=QM (L0 W)) (α:=Value) D.sc (fun v=>v) vals ⟨b,o,none⟩ (fun k hk=>?_) (fun c hcm=>by simp only[A5];exact ⟨trivial,hvs c hcm⟩)
   ·exact this
   ·have hc1:=hcell k hk
    have hsc:=hvs vals[k] (List.getElem_mem hk)
    have:=iS hc1 (T3 0 _ hsc) (QV hsc)
    rw[QV hsc] at this
    exact this
theorem rK {α:Type} [Inhabited α] {g:α→List Value} {q b:Nat} (hq:0<q) (hg:∀ a,(g a).length=q∧∀ c ∈ g a,D5 c=true) {t e:TypeId} {v:Value} {d:DataW H} {ps:List MemPlace} (ht:P.underlying t=some (.slice e)) (hc:P.cellsOf e=q) (hby:0<P.bytesOf e)
  (hv:Value.okWide P W .any b t v) (h:DataW.Trod enc P W base (fun _=>true) held t v d ps) (hsz:∀ n ∈ d.weights P t,n≤reachBytes)
  (hdec:∀ (cs:List Value) (n:Nat) (y:DataW H × List MemPlace),cs.length=q→DataW.trod enc P W base (fun _=>true) held n e cs=some y→∃ a,cs=g a):
  ∃ l:List α,d7 (QM (L0 W)) (.sl 3 l.length (l.flatMap fun a=>(g a).map D.sc)) v∧s7 0 v= []∧l.length*P.bytesOf e≤reachBytes:=by
 have hv':=PJ (by simp[ht]) (by simp[ht]) hv
 obtain ⟨n,hn⟩:=h
 have hone:v.cells.toList= [v]:=zH (by
  unfold Value.okWide at hv
  rw[ht] at hv
  simp only[Cell.okWide,ht,Cell.ok] at hv
  cases v<;>first|rfl|(exfalso;simp at hv))
 rw[hone] at hn
 exact PQ hq hg ht hc hby (fun a n c e=>KK (by rw[← e];exact hv')) hn hsz hdec
end
end Go.Itp
namespace Go.Itp
open Go.Lib
set_option linter.unusedVariables false

end Go.Itp
namespace Go.Itp
open Go.RowKit (Below)
set_option linter.unusedVariables false
set_option linter.constructorNameAsVariable false
section
variable {P:Program} {G:u9} {μ:Mu} {s:St} {w:World}
end
section
variable {old:Nat→Nat→Option Value} {rounds:Nat} {fns:FuncId→Option p5} {prims:FuncId→List Value→St→Option (Value × List w7)} {n:Nat} {f:FuncId}
end
end Go.Itp
namespace Go.Itp
set_option maxRecDepth 100000
set_option linter.unusedVariables false
section
variable {old : Nat → Nat → Option Value} {fr : D0} {H : D6} {nx : Nat} {st : n4}
end
section
variable {C:C6} {st:n4} {fr:D0}
theorem CB {a c c':V} (h:bX C st c c'):bX C st (.agg [a,c]) (.agg [a,c']):=by
 intro s μ F u h1 hv
 simp only[d7,f9] at hv ⊢
 obtain ⟨vs,rfl,v1,_,rfl,q1,v2,_,rfl,q2,rfl⟩:=hv
 exact ⟨_,rfl,v1,_,rfl,q1,v2,_,rfl,h s μ F v2 h1 q2,rfl⟩
theorem xW {a x:Value} {v:V} {s n:Nat} {l:List D} (hs:B1 st.own v=some (.sl s n l)) (hrow:B0 st.ro st.own (bS v)=true) (hk:s ≠ 1∨n ≠ 0) (h0:C.w0.nx=0) (hro:st.ro=0):L2 C [(0,.tup [.agg [.sc a,v],.sc x])] st [(0,.tup [.agg [.sc a,.sl 3 n l],.sc x])] ⟨[],0,0⟩:=by
 have e1:bS (.tup [.agg [.sc a,v],.sc x])=bS v:=by simp[bS,R5]
 have e2:B1 st.own (.tup [.agg [.sc a,v],.sc x])=some (.tup [.agg [.sc a,.sl s n l],.sc x]):=by simp[B1,Q6,hs]
 refine (kH (t:=0) (v:= .tup [.agg [.sc a,v],.sc x]) rfl e2 (by rw[e1];exact hrow)).trans ?_
 refine (S6 (t:=0) (v:= .tup [.agg [.sc a,.sl s n l],.sc x]) (v':= .tup [.agg [.sc a,.sl 3 n l],.sc x]) rfl (jY (CB (wK hk)))).trans ?_
 exact o7 [] 0 h0 hro rfl rfl rfl
theorem H1 {a x:Value} (h0:C.w0.nx=0) (hro:st.ro=0):L2 C [(0,.tup [.agg [.sc a,.sc (.slice none 0 0)],.sc x])] st [(0,.tup [.agg [.sc a,.sl 3 0 []],.sc x])] ⟨[],0,0⟩:=
 (S6 (t:=0) (v:= .tup [.agg [.sc a,.sc (.slice none 0 0)],.sc x]) (v':= .tup [.agg [.sc a,.sl 3 0 []],.sc x]) rfl (jY (CB CC))).trans (o7 [] 0 h0 hro rfl rfl rfl)
theorem rM {n:Nat} {l:List D} {a x:Value}:kJ [] (.tup [.agg [.sc a,.sl 3 n l],.sc x]):=pR (by simp only[Cl,OB,and_true];exact ⟨trivial,rfl⟩)
end
section
variable {C:C6} {st:n4} {fr:D0}
end
def sA (s:Nat) (l:List Int):D:= .sl s l.length (l.map iD)
section
variable {old:Nat→Nat→Option Value}
end
theorem GY {E:D9} {h:m0} {n:Nat} {bs:List w7} {a:Addr} (ha:a.spot=none∨a.block<n):n7 E (w6 h n bs) a=n7 E h a:=by
 obtain ⟨b,o,sp⟩:=a
 rcases sp with _|_|k
 ·rfl
 ·have hb:b<n:=by simpa using ha
  simp only[n7]
  rw[x7,if_neg (by omega)]
 ·rfl
theorem n5.weak {E:D9} {f:FuncId} {xs:List V} {v v':V} {st1 st2:n4} (h:n5 E f xs v st1) (hw:∀ C:C6,C.w0.nx=0→L2 C [(0,v)] st1 [(0,v')] st2) (hfl:w9 v'=true→w9 v=true):n5 E f xs v' st2:=by
 intro s F xsI hF hb hx
 obtain ⟨vI,bs,μ,G,e,g1,g2,g3,g4,g5⟩:=h s F xsI hF hb hx
 have hle:VW.le (YK E s.heap F) (s8 (C1 E s (YK E s.heap F)) st1 ⟨w6 s.heap s.next bs,s.next+bs.length,s.next⟩ μ G):=by
  refine ⟨fun a ha=>?_,g4,Nat.zero_le _,fun o b ho e=>absurd ho (Nat.not_lt_zero _)⟩
  refine GY ?_
  rcases aD4 ha with h1|h1
  ·exact .inl h1
  ·exact .inr (hF _ h1).1
 obtain ⟨μ',G',k1,k2,k3,k4,k5⟩:=hw (C1 E s (YK E s.heap F)) rfl ⟨w6 s.heap s.next bs,s.next+bs.length,s.next⟩ [(0,vI)] ⟨μ,G,g1,fun t u hu=>by
  by_cases ht:t=0
  ·subst ht
   have:v=u:=by simpa [i7] using hu
   subst this
   exact ⟨vI,rfl,g2⟩
  ·exfalso
   cases t with
   |zero=>exact ht rfl
   |succ t=>simp[i7] at hu,hle,rfl,g3⟩
 obtain ⟨uI,a,b⟩:=k2 0 v' rfl
 have:vI=uI:=by simpa [E7] using a
 subst this
 exact ⟨vI,bs,μ',G',e,k1,b,k5,fun b hb=>k3.F b hb,fun hf=>g5 (hfl hf)⟩
theorem n5.fin {E:D9} {f:FuncId} {xs:List V} {v v':V} {st1:n4} (h:n5 E f xs v st1) (hs:B1 st1.own v=some v') (hrow:B0 st1.ro st1.own (bS v)=true) (hro:st1.ro=0) (hren:X9 [] v'=v') (hfl:w9 v'=true→w9 v=true):n5 E f xs v' ⟨[],0,0⟩:=
 h.weak (fun C h0=>(kH (t:=0) rfl hs hrow).trans (o7 [] 0 h0 hro rfl (by show vX [] [(0,v')]=_;rw[XF,aI9,hren]) rfl)) hfl
theorem M3 {C:C6} {st:n4} {f:FuncId} {xs:List V} {v:V} {Q:V→n4→Prop} (h:n5 C.E f xs v ⟨[],0,0⟩) (hs:Q6 st.own xs=some xs) (hz:R5 xs= []) (hv:∀ k,oH k v=v) (hq:Q v st):eZ C f xs st Q:=by
 refine aQ h hs (by rw[hz];rfl) rfl ?_
 rw[hz,hv,aV]
 exact hq
section
variable {C:C6} {st:n4}
theorem bX.refl (v:V):bX C st v v:=fun _ _ _ _ _ h=>h
def sU (C:C6) (st:n4) (l l':List V):Prop:=∀ s μ F vs,SR C st s μ F→f9 (s8 C st s μ F) l vs→f9 (s8 C st s μ F) l' vs
theorem sU.nil:sU C st [] []:=fun _ _ _ _ _ h=>h
theorem sU.cons {a a':V} {l l':List V} (h:bX C st a a') (k:sU C st l l'):sU C st (a::l) (a'::l'):=fun s μ F vs hs hv=>by
 simp only[f9] at hv ⊢
 obtain ⟨u,us,rfl,h1,h2⟩:=hv
 exact ⟨u,us,rfl,h s μ F u hs h1,k s μ F us hs h2⟩
end
theorem n5.same {E:D9} {f:FuncId} {xs:List V} {v v':V} {st1:n4} (h:n5 E f xs v st1) (hv:∀ C:C6,bX C st1 v v') (hfl:w9 v'=true→w9 v=true):n5 E f xs v' st1:=
 h.weak (fun C _=>S6 (t:=0) (v:=v) (v':=v') rfl (hv C)) hfl
section
variable {old:Nat→Nat→Option Value} {rounds:Nat} {fns:FuncId→Option p5} {prims:FuncId→List Value→St→Option (Value × List w7)} {n:Nat} {f:FuncId} {xs:List V} {af:p5}
end
section
variable {C:C6} {st:n4} {fr:D0}
end
set_option linter.constructorNameAsVariable false
structure rX (f:Nat→V) (ob:Obj) (N:Nat) (L:List D):Prop where
 how:(∃ t,ob= .gro t 1 false L∧f=(fun o=> .gr 2 o N)∧N ≠ 0∧L ≠ [])∨(∃ t c,ob= .row t 1 false false L∧f=fun o=> .ref o 0 N c)
 len:L.length=N
 sc:∀ d ∈ L,∃ x,d= .sc x
theorem rX.gr {t N:Nat} {L:List D} (h:N ≠ 0) (hl:L.length=N) (hs:∀ d ∈ L,∃ x,d= .sc x):rX (fun o=> .gr 2 o N) (.gro t 1 false L) N L:=⟨.inl ⟨t,rfl,rfl,h,fun e=>h (by rw[← hl,e];rfl)⟩,hl,hs⟩
theorem rX.ref {t N c:Nat} {L:List D} (hl:L.length=N) (hs:∀ d ∈ L,∃ x,d= .sc x):rX (fun o=> .ref o 0 N c) (.row t 1 false false L) N L:=⟨.inr ⟨t,c,rfl,rfl⟩,hl,hs⟩
section
variable {f:Nat→V} {ob:Obj} {N:Nat} {L:List D}
theorem rX.facts (h:rX f ob N L):ob.none=false∧ob.fz=false∧ob.ok=true:=by
 have hok:P1 L=true:=by
  simp only[P1,List.all_eq_true]
  intro d hd
  obtain ⟨x,rfl⟩:=h.sc d hd
  rfl
 rcases h.how with ⟨t,rfl,rfl,h1,h2⟩|⟨t,c,rfl,rfl⟩
 ·exact ⟨by cases L with|nil=>exact absurd rfl h2|cons=>rfl,rfl,hok⟩
 ·exact ⟨rfl,rfl,hok⟩
theorem rX.row (h:rX f ob N L) {H:D6} {ro o:Nat} {r:List Nat} (ho:i7 H o=some ob) (hro:ro≤o) (hr:B0 ro H r=true):B0 ro H (o::r)=true:=by
 rcases h.how with ⟨t,rfl,rfl,h1,h2⟩|⟨t,c,rfl,rfl⟩
 ·exact XL ro H o _ _ _ _ r ho hro hr
 ·exact XM ro H o _ _ _ _ _ r ho hro hr
theorem rX.one (h:rX f ob N L) (o:Nat):bD (f o)=true:=by
 rcases h.how with ⟨t,rfl,rfl,h1,h2⟩|⟨t,c,rfl,rfl⟩<;>rfl
theorem rX.val (h:rX f ob N L) {C:C6} {st:n4} {s:St} {μ:Nat→Option Nat} {F:Nat→Prop} {o:Nat} {uI:Value} (hsr:SR C st s μ F) (ho:i7 st.own o=some ob) (hro:st.ro≤o) (hv:d7 (s8 C st s μ F) (f o) uI):
  ∃ b blk c,μ o=some b∧s.prot≤b∧g9 s.heap b=some blk∧(∀ n,z0 n blk.cells= [])∧uI= .slice (some ⟨b,0,some 0⟩) N c∧(∀ (w:VW) (o' b':Nat),o'<w.nx→w.μ o'=some b'→d7 w (f o') (.slice (some ⟨b',0,some 0⟩) N c))∧∀ w,fN w ob blk:=by
 obtain ⟨b,blk,m1,m2,m3⟩:=hsr.obj o _ ho h.facts.1
 have hb:s.prot≤b:=hsr.pb o b m1 hro
 rcases h.how with ⟨t,rfl,rfl,h1,h2⟩|⟨t,c,rfl,rfl⟩
 ·obtain ⟨r1,r2,r3⟩:=tX m3.2.2.2 h.sc
  simp only[d7] at hv
  obtain ⟨_,⟨h0,_⟩|⟨_,b',rfl,q⟩⟩:=hv
  ·exact absurd h0 h1
  have:=q b m1
  subst this
  refine ⟨b',blk,t8+N,m1,hb,m2,r1,rfl,fun w o' b'' k1 k2=>?_,fun w=>⟨m3.1,m3.2.1,m3.2.2.1,r3 w⟩⟩
  simp only[d7]
  exact ⟨k1,.inr ⟨h1,b'',rfl,fun b hb=>by rw[k2] at hb;cases hb;rfl⟩⟩
 ·obtain ⟨r1,r2,r3⟩:=tX m3.2.2.2 h.sc
  simp only[d7] at hv
  obtain ⟨_,hcap,b',rfl,q⟩:=hv
  have:=q b m1
  subst this
  refine ⟨b',blk,c,m1,hb,m2,r1,rfl,fun w o' b'' k1 k2=>?_,fun w=>⟨m3.1,m3.2.1,m3.2.2.1,r3 w⟩⟩
  simp only[d7]
  exact ⟨k1,hcap,b'',rfl,fun b hb=>by rw[k2] at hb;cases hb;rfl⟩
end
section
variable {old:Nat→Nat→Option Value} {rounds:Nat} {fns:FuncId→Option p5} {prims:FuncId→List Value→St→Option (Value × List w7)} {n:Nat} {f:FuncId} {xs:List V} {af:p5}
end
end Go.Itp
namespace Go.Itp
open Go Go.ChangeShapes
set_option linter.unusedVariables false
section
variable {H:Type} {enc:TypeId × Value→H} {P:Program} {W:World} {base:Nat} {held:Bool}
theorem WE {e:TypeId} {f0 f1 f2 f3 f4 f5 f6:Field} (he:P.underlying e=some (.struct #[f0,f1,f2,f3,f4,f5,f6])) (o0:f0.offset=0) (o1:f1.offset=1) (o2:f2.offset=2) (o3:f3.offset=3) (o4:f4.offset=4) (o5:f5.offset=5) (o6:f6.offset=6)
  (c0:P.cellsOf f0.type=1) (c1:P.cellsOf f1.type=1) (c2:P.cellsOf f2.type=1) (c3:P.cellsOf f3.type=1) (c4:P.cellsOf f4.type=1) (c5:P.cellsOf f5.type=1) (c6:P.cellsOf f6.type=1)
  (cs:List Value) (n:Nat) (y:DataW H × List MemPlace) (hl:cs.length=7) (h:DataW.trod enc P W base (fun _=>true) held n e cs=some y):
  ∃ (m:Nat) (a0 a1 a2 a3 a4 a5 a6:Value),cs= [a0,a1,a2,a3,a4,a5,a6]∧(∃ y,DataW.trod enc P W base (fun _=>true) held m f0.type [a0]=some y)∧(∃ y,DataW.trod enc P W base (fun _=>true) held m f1.type [a1]=some y)∧(∃ y,DataW.trod enc P W base (fun _=>true) held m f2.type [a2]=some y)∧
   (∃ y,DataW.trod enc P W base (fun _=>true) held m f3.type [a3]=some y)∧(∃ y,DataW.trod enc P W base (fun _=>true) held m f4.type [a4]=some y)∧(∃ y,DataW.trod enc P W base (fun _=>true) held m f5.type [a5]=some y)∧∃ y,DataW.trod enc P W base (fun _=>true) held m f6.type [a6]=some y:=by
 obtain ⟨a0,a1,a2,a3,a4,a5,a6,rfl⟩:∃ a0 a1 a2 a3 a4 a5 a6,cs= [a0,a1,a2,a3,a4,a5,a6]:=by
  rcases cs with _|⟨a0,_|⟨a1,_|⟨a2,_|⟨a3,_|⟨a4,_|⟨a5,_|⟨a6,_|⟨a7,r⟩⟩⟩⟩⟩⟩⟩⟩<;>simp at hl
  exact ⟨a0,a1,a2,a3,a4,a5,a6,rfl⟩
 cases n with
 |zero=>simp[DataW.trod] at h
 |succ n=>
  unfold DataW.trod at h
  simp only[he] at h
  split at h
  case isFalse=>cases h
  simp only[Option.map_eq_some_iff,List.mapM_cons,List.mapM_nil] at h
  obtain ⟨xs,hx,hd⟩:=h
  simp only[o0,o1,o2,o3,o4,o5,o6,c0,c1,c2,c3,c4,c5,c6,List.drop_zero,List.drop_succ_cons,List.take_succ_cons,List.take_zero] at hx
  refine ⟨n,a0,a1,a2,a3,a4,a5,a6,rfl,?_⟩
  cases h0:DataW.trod enc P W base (fun _=>true) held n f0.type [a0] with
  |none=>simp[h0] at hx
  |some y0=>
  cases h1:DataW.trod enc P W base (fun _=>true) held n f1.type [a1] with
  |none=>simp[h0,h1] at hx
  |some y1=>
  cases h2:DataW.trod enc P W base (fun _=>true) held n f2.type [a2] with
  |none=>simp[h0,h1,h2] at hx
  |some y2=>
  cases h3:DataW.trod enc P W base (fun _=>true) held n f3.type [a3] with
  |none=>simp[h0,h1,h2,h3] at hx
  |some y3=>
  cases h4:DataW.trod enc P W base (fun _=>true) held n f4.type [a4] with
  |none=>simp[h0,h1,h2,h3,h4] at hx
  |some y4=>
  cases h5:DataW.trod enc P W base (fun _=>true) held n f5.type [a5] with
  |none=>simp[h0,h1,h2,h3,h4,h5] at hx
  |some y5=>
  cases h6:DataW.trod enc P W base (fun _=>true) held n f6.type [a6] with
  |none=>simp[h0,h1,h2,h3,h4,h5,h6] at hx
  |some y6=>exact ⟨⟨_,rfl⟩,⟨_,rfl⟩,⟨_,rfl⟩,⟨_,rfl⟩,⟨_,rfl⟩,⟨_,rfl⟩,⟨_,rfl⟩⟩
theorem wf8 {z:Int} (h:(Lit.int .u8 z).wf=true):0≤z∧z<256:=by
 simp[Lit.wf,IntKind.min,IntKind.max,IntKind.signed,IntKind.bits] at h
 omega
end
section
variable {H:Type} {enc:TypeId × Value→H} {P:Program} {W:World} {base:Nat} {held:Bool}
end
end Go.Itp
namespace Go.Itp
open Go Go.ChangeShapes Go.WideShapes Go.ChangeAt Go.RowKit
set_option linter.unusedVariables false
section
variable {H:Type} {enc:TypeId × Value→H} {P:Program} {W:World} {base:Nat} {held:Bool}
end
end Go.Itp
namespace Go.Itp
set_option linter.unusedVariables false
theorem XX {old:Nat→Nat→Option Value} {f:D0} {st:n4} (a x:Operand) (h:Option (List Nat)):T5 old f st (.store 7 a x) h=jD st 7 (p7 f a) (p7 f x):=XY 7 rfl a x h
theorem WB {st:n4} {n o k t e:Nat} {ys:List V} {ds l:List D} (hro:st.ro≤o) (hn:n ≠ 0) (hlen:ys.length=n) (hd:ds.length=n) (hds:FZ ys=some ds) (hk:k+n≤l.length):
  RP st n o k ys (some (.gro t e false l))=some (.tup [],⟨B5 st.own o (.gro t e false (l.take k++ds++l.drop (k+n))),st.next,st.ro⟩,⟨[o],[o],[],false,false⟩):=by
 simp only[RP,hds,Option.bind_some]
 rw[if_pos (by simp only[Bool.and_eq_true,Nat.ble_eq,Bool.not_eq_true',vE];exact ⟨⟨hro,j7.2 hlen⟩,hn⟩),bF _ _ _ (by rw[hd];exact hk),hd]
 rfl
theorem OR (st:n4) (o k t:Nat) (l:List D) (a b c d e f h:Value) (hro:st.ro≤o) (hk:k+7≤l.length):
  RP st 7 o k [.sc a,.sc b,.sc c,.sc d,.sc e,.sc f,.sc h] (some (.gro t 7 false l))=some (.tup [],⟨B5 st.own o (.gro t 7 false (l.take k++ [.sc a,.sc b,.sc c,.sc d,.sc e,.sc f,.sc h]++l.drop (k+7))),st.next,st.ro⟩,⟨[o],[o],[],false,false⟩):=
 WB hro (by decide) rfl rfl rfl hk
theorem aL3 (st:n4) (o k t:Nat) (l:List D) (a b c d e f h:Value) (hro:st.ro≤o) (hk:k+7≤l.length):
  QC st 7 o k (.agg [.sc a,.sc b,.sc c,.sc d,.sc e,.sc f,.sc h]) (some (.gro t 7 false l))=some (.tup [],⟨B5 st.own o (.gro t 7 false (l.take k++ [.sc a,.sc b,.sc c,.sc d,.sc e,.sc f,.sc h]++l.drop (k+7))),st.next,st.ro⟩):=by
 have hv:K4 (.agg [.sc a,.sc b,.sc c,.sc d,.sc e,.sc f,.sc h])=some [.sc a,.sc b,.sc c,.sc d,.sc e,.sc f,.sc h]:=rfl
 simp only[QC,hv,Option.bind_some]
 rw[if_pos (show Nat.beq _ 7=true from rfl),if_neg (by simp only[Bool.not_eq_true,yF];exact hro)]
 simp only[jF,rZ,List.append_nil,m8,B0,Bool.not_true,Bool.or_false]
 rw[if_neg (by simp)]
 simp only[X5,aL,Option.bind_some,Option.map_some]
 rw[bF _ _ _ (by simpa using hk),s5]
 rfl
end Go.Itp
