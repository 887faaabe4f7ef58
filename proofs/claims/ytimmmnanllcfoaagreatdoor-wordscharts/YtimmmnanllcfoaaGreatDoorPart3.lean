/- What is proved: the law WordsCharts returns true for every input. Conditions: none beyond the card's own.
   Texts: V7, V8, V9, V10, V11, V12, V13, V14, V15, V16, V17, Lib, Lib2, WalkW, Strs, V18, V19.
-/
import Derived.Test.YtimmmnanllcfoaaGreatDoorPart2
namespace Go.Itp
set_option linter.unusedVariables false
set_option linter.constructorNameAsVariable false
section
variable {E:E6} {H:E7} {heap:j8} {w:VW} {fr:E0} {frI:Fr} {n p:Nat} {v:V} {ob:Option Obj} {fz:List Nat}
theorem eH {H:E7}:∀ {l:List V} {ds:List D},cL H l=some ds→ds.length=l.length
 | [],ds,h=>by simp only[cL,Option.some.injEq] at h;subst h;rfl
 |x::l,ds,h=>by
  simp only[cL,Option.bind_eq_some_iff,Option.map_eq_some_iff] at h
  obtain ⟨d,_,ds',h2,rfl⟩:=h
  simp[eH h2]
theorem QS {e m:Nat} {l:List D × List Nat} (h:J8 H e m v=some l) (hm:∀ n,Q9 v=some n→m≤n):l.1.length=m*e:=by
 unfold J8 at h
 split at h
 ·split at h
  ·rename_i hc
   cases h
   have:=Nat.mul_le_mul_right e hc.2
   rw[List.length_take];omega
  ·cases h
 ·split at h
  ·rename_i hc
   cases h
   have:=Nat.mul_le_mul_right e hc.2
   rw[List.length_take];omega
  ·cases h
 ·split at h
  ·split at h
   ·cases h;rw[List.length_take,List.length_drop];omega
   ·cases h
  ·split at h
   ·cases h;rw[List.length_take,List.length_drop];omega
   ·cases h
  ·split at h
   ·simp only[Option.map_eq_some_iff] at h
    obtain ⟨ds,h1,rfl⟩:=h
    rw[eH h1,List.length_take,List.length_drop];omega
   ·cases h
  ·cases h
 ·split at h
  ·split at h
   ·rename_i hc
    cases h
    have:=Nat.mul_le_mul_right e hc.2.1
    rw[List.length_take];omega
   ·cases h
  ·cases h
 ·split at h
  ·rename_i hm0;cases h;rw[f8.1 hm0];simp
  ·cases h
 ·split at h
  ·rename_i s hc
   cases h
   simp only[Bool.and_eq_true,Nat.ble_eq] at hc
   rw[f8.1 hc.1,List.length_map,List.length_take]
   have:s.data.toList.length=s.size:=by simp
   omega
  ·cases h
 ·cases h
theorem mP {l:List D} {b k q:Nat} {blk:u5} (hb:d9 heap b=some blk) (h:j6 w l blk.cells) (hq:k+q≤l.length):∃ vs,F9 E heap ⟨b,k,some 0⟩ q=some vs∧j6 w ((l.drop k).take q) vs:=by
 have hl:=h.length
 exact ⟨_,eR hb (by omega),h.part k q⟩
def oC (E:E6) (heap:j8) (w:VW) (e m:Nat) (vI:Value) (r:List D × List Nat):Prop:=
 ∃ cs,n8 E heap e m vI=some cs∧cs.length=r.1.length∧cs.all A8=true∧∀ w',VW.le w w'→Fin w w' r.2→LdX heap w w' r.2→j6 w' r.1 cs
theorem R6 {e m:Nat} {vI:Value} {l:List D} (h:∃ cs,n8 E heap e m vI=some cs∧j6 w l cs):oC E heap w e m vI (l,[]):=by
 obtain ⟨cs,h1,h2⟩:=h
 exact ⟨cs,h1,h2.length,h2.one,fun w' k1 _ _=>h2.mono k1⟩
theorem RG {w:VW}:∀ {l:List V} {vs:List Value} {ds:List D},d8 w l vs→cL H l=some ds→vs.all A8=true
 | [],vs,ds,h,ht=>by simp only[d8] at h;subst h;rfl
 |x::r,vs,ds,h,ht=>by
  simp only[cL,Option.bind_eq_some_iff,Option.map_eq_some_iff] at ht
  obtain ⟨d,h1,ds',h2,rfl⟩:=ht
  simp only[d8] at h
  obtain ⟨u,us,rfl,k1,k2⟩:=h
  have:Z8 x=true:=by
   cases x with
   |agg l=>simp[dH] at h1
   |tup l=>simp[dH] at h1
   |dead=>simp[dH] at h1
   |tok o=>simp[dH] at h1
   |_=>rfl
  simp only[List.all_cons,k1.one this,Bool.true_and]
  exact RG k2 h2
theorem V5 (hr:HR E H heap w) {e m:Nat} {r:List D × List Nat} {vI:Value} (hv:b9 w v vI) (h:J8 H e m v=some r) (hm:∀ n,Q9 v=some n→m≤n):oC E heap w e m vI r:=by
 have hnil:∀ {u:Value},m=0→r=([],[])→(u= .slice none 0 0∨∃ a b c,u= .complex a b c)→oC E heap w e m u r:=by
  intro u h0 h1 h2
  subst h0 h1
  exact R6 (by rcases h2 with rfl|⟨a,b,c,rfl⟩<;>exact ⟨[],rfl,by simp only[j6]⟩)
 unfold J8 at h
 split at h
 ·rename_i s n l
  split at h
  case isFalse=>cases h
  rename_i hc
  cases h
  have hle:=Nat.mul_le_mul_right e hc.2
  simp only[b9,u7] at hv
  rcases hv with ⟨a,c,rfl,i,_,hA,_⟩|⟨_,rfl,rfl,rfl|⟨_,a,b,c,rfl⟩⟩
  ·exact R6 (kG hr i hA (m*e) (by omega))
  ·exact hnil (by omega) (by simp) (.inl rfl)
  ·exact hnil (by omega) (by simp) (.inr ⟨_,_,_,rfl⟩)
 ·rename_i s n c l
  split at h
  case isFalse=>cases h
  rename_i hc
  cases h
  have hle:=Nat.mul_le_mul_right e hc.2
  simp only[b9] at hv
  rcases hv with ⟨_,_,⟨a,rfl,i,hA⟩|⟨_,rfl,_,rfl,rfl⟩⟩
  ·exact R6 (kG hr i hA (m*e) (by omega))
  ·exact hnil (by omega) (by simp) (.inl rfl)
 ·rename_i o k n c
  simp only[b9] at hv
  obtain ⟨k1,_,b',rfl,k3⟩:=hv
  split at h
  ·rename_i t e' g z l' ho
   split at h
   case isFalse=>cases h
   rename_i hc
   cases h
   obtain ⟨b,blk,m1,m2,m3⟩:=hr.obj o _ ho rfl
   have:=k3 b m1
   subst this
   exact R6 (mP (E:=E) m2 m3.2.2.2 hc)
  ·rename_i t e' z l' ho
   split at h
   case isFalse=>cases h
   rename_i hc
   cases h
   have hne:(Obj.gro t e' z l').none=false:=by
    cases l' with
    |nil=>
     exfalso
     have:=Nat.mul_pos (Nat.pos_of_ne_zero hc.2.1) (Nat.pos_of_ne_zero hc.2.2)
     simp at hc;omega
    |cons=>rfl
   obtain ⟨b,blk,m1,m2,m3⟩:=hr.obj o _ ho hne
   have:=k3 b m1
   subst this
   exact R6 (mP (E:=E) m2 m3.2.2.2 hc.1)
  ·rename_i t e' l' ho
   split at h
   case isFalse=>cases h
   rename_i hc
   simp only[Option.map_eq_some_iff] at h
   obtain ⟨ds,hd,rfl⟩:=h
   obtain ⟨b,blk,m1,m2,m3⟩:=hr.obj o _ ho rfl
   have:=k3 b m1
   subst this
   have hcl:=m3.2.2.2.length
   have hp:=m3.2.2.2.part k (m*e)
   refine ⟨(blk.cells.drop k).take (m*e),eR (E:=E) m2 (by omega),?_,RG hp hd,fun w' q1 q2 q3=>(uT hr q1 hp hd q2 q3).1⟩
   rw[eH hd,hp.length]
  ·cases h
 ·rename_i s o n
  split at h
  case h_2=>cases h
  rename_i t e' z l' ho
  split at h
  case isFalse=>cases h
  rename_i hc
  cases h
  have hle:=Nat.mul_le_mul_right e hc.2.1
  simp only[b9] at hv
  obtain ⟨k1,hv⟩:=hv
  rcases hv with ⟨rfl,rfl|⟨_,a,c,rfl,i⟩⟩|⟨hn,b',rfl,k3⟩
  ·have hl0:l'= []:=List.eq_nil_of_length_eq_zero (by rw[hc.1];simp)
   exact hnil (by omega) (by rw[hl0];simp) (.inl rfl)
  ·have hl0:l'= []:=List.eq_nil_of_length_eq_zero (by rw[hc.1];simp)
   subst hl0
   exact R6 (kG hr i (u9.nil a) (m*e) (by (have:m=0:=by omega);subst this;simp))
  ·have hne:(Obj.gro t e' z l').none=false:=by
    cases l' with
    |nil=>
     exfalso
     have:=Nat.mul_pos (Nat.pos_of_ne_zero hn) (Nat.pos_of_ne_zero hc.2.2)
     simp at hc;omega
    |cons=>rfl
   obtain ⟨b,blk,m1,m2,m3⟩:=hr.obj o _ ho hne
   have:=k3 b m1
   subst this
   have:=mP (E:=E) (k:=0) (q:=m*e) m2 m3.2.2.2 (by omega)
   rw[List.drop_zero] at this
   exact R6 this
 ·rename_i q1 q2
  split at h
  case isFalse=>cases h
  rename_i hm0
  cases h
  have hx:=hv.ok
  have:=hv.scv
  subst this
  simp only[C2,Bool.and_eq_true,f8] at hx
  obtain ⟨rfl,rfl⟩:=hx
  exact hnil (f8.1 hm0) rfl (.inl rfl)
 ·rename_i s
  split at h
  case isFalse=>cases h
  rename_i hc
  cases h
  simp only[Bool.and_eq_true,Nat.ble_eq] at hc
  have he:=f8.1 hc.1
  subst he
  have:=hv.scv
  subst this
  refine R6 ⟨r5 (s.data.toList.take m),?_,qQ _⟩
  have hsz:s.data.toList.length=s.size:=by simp
  show (B8 s.data.toList m).map r5=_
  rw[V0 _ _ (by omega)]
  rfl
 ·cases h
theorem oC.plain (hr:HR E H heap w) {e m:Nat} {vI:Value} {r:List D × List Nat} (h:oC E heap w e m vI r) (h2:r.2= []):∃ cs,n8 E heap e m vI=some cs∧j6 w r.1 cs:=by
 obtain ⟨cs,h1,_,_,h3⟩:=h
 exact ⟨cs,h1,h3 w ⟨fun _ _=>rfl,fun _ h=>h,Nat.le_refl _,fun _ _ _ h=>h⟩ (by rw[h2];intro o ho;cases ho) (by rw[h2];intro o ho;cases ho)⟩
theorem qT:∀ {l:List D} {bs:List UInt8} {cs:List Value},A7 l=some bs→j6 w l cs→bytesOf cs=some bs
 | [],bs,cs,h,hl=>by
  simp only[j6] at hl;subst hl
  simp only[A7,Option.some.injEq] at h;subst h;rfl
 | .sc (.int .u8 n)::r,bs,cs,h,hl=>by
  simp only[j6,u7] at hl
  obtain ⟨v,vs,rfl,⟨rfl,_⟩,h2⟩:=hl
  simp only[A7,Option.map_eq_some_iff] at h
  obtain ⟨bs',h1,rfl⟩:=h
  simp[bytesOf,qT h1 h2]
 | .sc (.int .i8 n)::r,bs,cs,h,hl=>by simp[A7] at h
 | .sc (.int .i16 n)::r,bs,cs,h,hl=>by simp[A7] at h
 | .sc (.int .i32 n)::r,bs,cs,h,hl=>by simp[A7] at h
 | .sc (.int .i64 n)::r,bs,cs,h,hl=>by simp[A7] at h
 | .sc (.int .u16 n)::r,bs,cs,h,hl=>by simp[A7] at h
 | .sc (.int .u32 n)::r,bs,cs,h,hl=>by simp[A7] at h
 | .sc (.int .u64 n)::r,bs,cs,h,hl=>by simp[A7] at h
 | .sc (.bool _)::r,bs,cs,h,hl=>by simp[A7] at h
 | .sc (.float _ _)::r,bs,cs,h,hl=>by simp[A7] at h
 | .sc (.complex _ _ _)::r,bs,cs,h,hl=>by simp[A7] at h
 | .sc (.string _)::r,bs,cs,h,hl=>by simp[A7] at h
 | .sc (.pointer _)::r,bs,cs,h,hl=>by simp[A7] at h
 | .sc (.slice _ _ _)::r,bs,cs,h,hl=>by simp[A7] at h
 | .sc (.map _)::r,bs,cs,h,hl=>by simp[A7] at h
 | .sc (.chan _)::r,bs,cs,h,hl=>by simp[A7] at h
 | .sc (.func _ _ _)::r,bs,cs,h,hl=>by simp[A7] at h
 | .sc (.nilFunc)::r,bs,cs,h,hl=>by simp[A7] at h
 | .sc (.iface _ _)::r,bs,cs,h,hl=>by simp[A7] at h
 | .sc (.nilIface)::r,bs,cs,h,hl=>by simp[A7] at h
 | .sc (.agg _)::r,bs,cs,h,hl=>by simp[A7] at h
 | .sc (.tuple _)::r,bs,cs,h,hl=>by simp[A7] at h
 | .sl _ _ _::r,bs,cs,h,hl=>by simp[A7] at h
theorem bW7 (hr:HR E H heap w) (hf:FR w fr frI) {x:Operand} (h:K6 E H w fr (.b2s x) v ob fz):J2 E heap w frI n p (.b2s x) v ob fz:=by
 simp only[K6,f5,Option.bind_eq_some_iff] at h
 obtain ⟨a,h1,h⟩:=h
 split at h
 case isFalse=>cases h
 rename_i hok
 simp only[Option.bind_eq_some_iff] at h
 obtain ⟨m,h2,l,h3,h⟩:=h
 split at h
 ·cases h
 rename_i hl2
 simp only[Bool.not_eq_true',Bool.not_eq_false,List.isEmpty_iff] at hl2
 simp only[Option.bind_eq_some_iff] at h
 obtain ⟨bs,h4,h⟩:=h
 cases h
 obtain ⟨aI,a1,a2⟩:=k7 hf h1
 obtain ⟨q1,q2⟩:=IU a2 h2
 have hls:Q9 a=some m:=by
  unfold Q9
  split
  ·rename_i s;exact absurd a2.scv (q2 s)
  ·exact h2
 obtain ⟨cs,c1,c2⟩:=(V5 hr a2 h3 (fun k hk=>by rw[hls] at hk;cases hk;exact Nat.le_refl _)).plain hr hl2
 have hb:=qT h4 c2
 refine ⟨_,[],?_,.pure (.mksc rfl)⟩
 simp only[a8,a1,Option.bind_some]
 have hcx:∀ k b e,aI ≠ .complex k b e:=by
  intro k b e ee
  subst ee
  cases a with
  |sl s k' l'=>
   simp only[b9,u7] at a2
   rcases a2 with ⟨_,_,e,_⟩|⟨_,h0,_,e|⟨hs,_⟩⟩
   ·cases e
   ·cases e
   ·exact (aH (l:=l').1 hok).elim (fun h=>h hs) (fun h=>h h0)
  |sc u=>have:=a2.ok;have h':=a2.scv;subst h';cases this
  |slk s k' c' l'=>simp only[b9] at a2;rcases a2 with ⟨_,_,⟨_,e,_⟩|⟨_,_,_,_,e⟩⟩<;>cases e
  |ref o k' i c'=>simp only[b9] at a2;obtain ⟨_,_,_,e,_⟩:=a2;cases e
  |gr s o k'=>simp only[b9] at a2;rcases a2 with ⟨_,⟨_,e|⟨_,_,_,e,_⟩⟩|⟨_,_,e,_⟩⟩<;>cases e
  |_=>simp[W1] at h2
 unfold lenA at q1
 split at q1
 ·rename_i ad k c
  cases q1
  cases ad with
  |none=>
   simp only[n8] at c1
   split at c1
   ·cases c1
    simp only[bytesOf,Option.some.injEq] at hb
    subst hb
    rfl
   ·cases c1
  |some ad=>
   simp only[n8,Nat.mul_one] at c1
   simp[c1,hb]
 ·exact absurd rfl (hcx _ _ _)
 ·exact absurd rfl (q2 _)
 ·cases q1
theorem bA3 (hr:HR E H heap w) {t:TypeId} {e b:Nat} {x y:V} {xI yI:Value} (hx:b9 w x xI) (hy:b9 w y yI) (h:mJ H w.nx t e b x y=some (v,ob,fz)):∃ vI bs,Z3 E ⟨heap,n,p⟩ t e b xI yI=some (vI,bs)∧iE heap w n v ob fz vI bs:=by
 simp only[mJ,Option.bind_eq_some_iff] at h
 obtain ⟨m,hm,new,hnew,h⟩:=h
 have hlen:=oZ hy hm
 split at h
 ·rename_i h0
  have key:∀ {a:Option Addr} {k c:Nat},xI= .slice a k c→F4 k c→Z3 E ⟨heap,n,p⟩ t e b xI yI=some (xI,[]):=by
   intro a k c e1 e2
   subst e1
   simp only[Z3,hlen,Option.bind_some]
   rw[if_pos h0,if_pos (by rw[Nat.ble_eq];exact e2)]
  split at h
  ·split at h
   case isFalse=>cases h
   rename_i hok
   cases h
   rw[aH] at hok
   refine ⟨xI,[],?_,.pure hx⟩
   simp only[b9,u7] at hx
   rcases hx with ⟨a,c,rfl,_,k,_⟩|⟨_,rfl,_,rfl|⟨hs,_⟩⟩
   ·exact key rfl k
   ·exact key rfl (Nat.zero_le _)
   ·exact absurd hok (by omega)
  ·cases h
   refine ⟨xI,[],?_,.pure hx⟩
   simp only[b9] at hx
   rcases hx with ⟨hc,hn,⟨a,rfl,_⟩|⟨_,rfl,rfl,_,rfl⟩⟩
   ·exact key rfl (by unfold F4;rw[E3 hc];exact hn)
   ·exact key rfl (Nat.zero_le _)
  ·cases h
   refine ⟨xI,[],?_,.pure hx⟩
   simp only[b9] at hx
   obtain ⟨_,hc,b',rfl,_⟩:=hx
   exact key rfl hc
  ·cases h
   have hk:=hx.ok
   have:=hx.scv
   subst this
   simp only[C2,Bool.and_eq_true,f8] at hk
   obtain ⟨rfl,rfl⟩:=hk
   exact ⟨_,[],key rfl (Nat.zero_le _),.pure hx⟩
  ·cases h
 ·rename_i h0
  split at h
  case isFalse=>cases h
  rename_i hok
  simp only[Bool.and_eq_true,Bool.not_eq_true'] at hok
  have hm0:m ≠ 0:=by rw[f8] at h0;exact h0
  have he0:e ≠ 0:=by have:=hok.2;rw[← Bool.not_eq_true,f8] at this;exact this
  have hml:∀ k,Q9 y=some k→m≤k:=fun k hk=>by rw[hm] at hk;cases hk;exact Nat.le_refl _
  obtain ⟨cs,c1,c0,c3,c2⟩:=V5 hr hy hnew hml
  have hnl:=QS hnew hml
  have hnn:new.1.length ≠ 0:=by
   have:=Nat.mul_pos (Nat.pos_of_ne_zero hm0) (Nat.pos_of_ne_zero he0);omega
  have key:∀ {a:Option Addr} {k c:Nat} {old:List D × List Nat},xI= .slice a k c→c<v7→c<k+m→k+m≤r6→(k+m)*b≤r6→oC E heap w e k xI old→W5 old.1=true→
    ∃ vI bs,Z3 E ⟨heap,n,p⟩ t e b xI yI=some (vI,bs)∧iE heap w n (.gr 2 w.nx (k+m)) (some (.gro t e false (old.1++new.1))) (old.2++new.2) vI bs:=by
   intro a k c old e1 g1 g2 g3 g4 g5 g7
   obtain ⟨us,u1,u0,u3,u2⟩:=g5
   refine ⟨.slice (some ⟨n,0,some 0⟩) (k+m) (v7+(k+m)),[⟨us++cs,e,true,t⟩],?_,?_,rfl,?_,_,rfl,fun w' k1 k2 k3 k4 k5=>⟨.gr_new k4 k5 _ (by omega),rfl,rfl,rfl,
    (u2 w' k1 (fun o ho=>k2 o (List.mem_append.2 (.inl ho))) (fun o ho=>k3 o (List.mem_append.2 (.inl ho)))).append (c2 w' k1 (fun o ho=>k2 o (List.mem_append.2 (.inr ho))) (fun o ho=>k3 o (List.mem_append.2 (.inr ho))))⟩⟩
   ·subst e1
    simp only[Z3,hlen,Option.bind_some]
    rw[if_neg h0,if_pos (by simp only[Bool.and_eq_true,Nat.ble_eq,Nat.blt_eq];exact ⟨⟨⟨g3,g4⟩,g1⟩,g2⟩),c1]
    simp only[Option.bind_some,u1,Option.map_some]
   ·cases h1:old.1++new.1 with
    |nil=>
     have:=congrArg List.length h1
     rw[List.length_append,List.length_nil] at this
     omega
    |cons=>rfl
   ·simp only[Obj.ok,W5,List.all_append,Bool.and_eq_true]
    exact ⟨g7,hok.1⟩
  have hsn:oC E heap w e 0 (.slice none 0 0) ([],[]):=R6 ⟨[],rfl,by simp only[j6]⟩
  split at h
  ·split at h
   case isFalse=>cases h
   rename_i hc
   simp only[Bool.and_eq_true,Nat.ble_eq] at hc
   cases h
   have hk:=hx.ok
   have:=hx.scv
   subst this
   simp only[C2,Bool.and_eq_true,f8] at hk
   obtain ⟨rfl,rfl⟩:=hk
   have:=key rfl (by unfold v7;omega) (by omega) (by rw[Nat.zero_add];exact hc.1) (by rw[Nat.zero_add];exact hc.2) hsn rfl
   simpa only[Nat.zero_add,List.nil_append] using this
  ·rename_i s k c l
   split at h
   case isFalse=>cases h
   rename_i hc
   simp only[Bool.and_eq_true,Nat.ble_eq,Nat.blt_eq] at hc
   obtain ⟨g0,⟨⟨g2,g7⟩,g3⟩,g4⟩:=hc
   cases h
   have hx':=hx
   simp only[b9] at hx
   have hsrc:J8 H e k (.slk s k c l)=some (l,[]):=by
    simp only[J8]
    rw[if_pos ⟨g0,Nat.le_refl _⟩,List.take_of_length_le (by omega)]
   have hso:=V5 hr hx' hsrc (fun j hj=>by simp[Q9,W1] at hj;omega)
   rcases hx with ⟨hcb,hn,⟨a,rfl,_⟩|⟨_,rfl,rfl,_,rfl⟩⟩
   ·exact key rfl hcb g2 g3 g4 hso g7
   ·exact key rfl hcb g2 g3 g4 hso g7
  ·rename_i o k j c
   split at h
   case isFalse=>cases h
   rename_i hc
   simp only[Bool.and_eq_true,Nat.ble_eq,Nat.blt_eq] at hc
   obtain ⟨⟨⟨g1,g2⟩,g3⟩,g4⟩:=hc
   simp only[Option.bind_eq_some_iff] at h
   obtain ⟨l,hsrc,h⟩:=h
   split at h
   case isFalse=>cases h
   rename_i g7
   cases h
   have hso:=V5 hr hx hsrc (fun i hi=>by simp[Q9,W1] at hi;omega)
   simp only[b9] at hx
   obtain ⟨_,_,b',rfl,_⟩:=hx
   exact key rfl g1 g2 g3 g4 hso g7
  ·cases h
theorem bW6 (hr:HR E H heap w) (hf:FR w fr frI) {t:TypeId} {e b:Nat} {x y:Operand} (h:K6 E H w fr (.app t e b x y) v ob fz):J2 E heap w frI n p (.app t e b x y) v ob fz:=by
 simp only[K6,f5,Option.bind_eq_some_iff] at h
 obtain ⟨a,h1,c,h2,h⟩:=h
 obtain ⟨aI,a1,a2⟩:=k7 hf h1
 obtain ⟨bI,b1,b2⟩:=k7 hf h2
 obtain ⟨vI,bs,e1,e2⟩:=bA3 hr a2 b2 h (n:=n) (p:=p)
 exact ⟨vI,bs,by simp[a8,a1,b1,e1],e2⟩
theorem bK8 (hf:FR w fr frI) {g lit:Bool} {ts:List TypeId} {x y:Operand} (h:K6 E H w fr (.eqIf g lit ts x y) v ob fz):J2 E heap w frI n p (.eqIf g lit ts x y) v ob fz:=by
 simp only[K6,f5,Option.bind_eq_some_iff] at h
 obtain ⟨a,h1,c,h2,h⟩:=h
 obtain ⟨aI,a1,a2⟩:=k7 hf h1
 obtain ⟨bI,b1,b2⟩:=k7 hf h2
 split at h
 ·simp only[Option.bind_eq_some_iff] at h
  obtain ⟨r,hr,h⟩:=h
  cases h
  rw[a2.scv] at a1
  rw[b2.scv] at b1
  exact ⟨_,[],by simp[a8,a1,b1,hr],.pure (.mksc rfl)⟩
 ·cases h
  rw[b2.scv] at b1
  simp only[b9] at a2
  obtain ⟨u,rfl,_⟩:=a2
  exact ⟨_,[],by simp[a8,a1,b1,wJ],.pure (.mksc rfl)⟩
 ·cases h
theorem tB:∀ {ps:List (Nat × Nat)} {xs ys:List V} {cs ds:List Value} {q:Bool},U4 ps xs ys=some q→d8 w xs cs→d8 w ys ds→bR ps cs ds=some q
 | [],xs,ys,cs,ds,q,h,_,_=>h
 |(o,c)::r,xs,ys,cs,ds,q,h,h1,h2=>by
  simp only[U4] at h
  cases hx:B1 xs o with
  |none=>rw[hx] at h;simp[Y5,HI] at h
  |some x=>
   cases hy:B1 ys o with
   |none=>rw[hx,hy] at h;cases x<;>simp[Y5,HI] at h
   |some y=>
    obtain ⟨a,ha,ra⟩:=jB h1 hx
    obtain ⟨b,hb,rb⟩:=jB h2 hy
    rw[hx,hy] at h
    simp only[bR,ha,hb,Option.bind_some]
    cases x<;>cases y<;>first|(simp[Y5,HI] at h;done)|skip
    rename_i x y
    rw[ra.scv,rb.scv]
    simp only[Y5] at h
    cases he:qZ c x y with
    |none=>rw[he] at h;simp[HI] at h
    |some p=>
     rw[he] at h
     cases p with
     |false=>simpa [HI] using h
     |true=>simp only[HI] at h;simp only[Option.bind_some];exact tB h h1 h2
theorem bB2 (hf:FR w fr frI) {g:Bool} {ps:List (Nat × Nat)} {x y:Operand} (h:K6 E H w fr (.eqAgg g ps x y) v ob fz):J2 E heap w frI n p (.eqAgg g ps x y) v ob fz:=by
 simp only[K6,f5,Option.bind_eq_some_iff,Option.map_eq_some_iff] at h
 obtain ⟨a,h1,c,h2,r,h3,h⟩:=h
 cases h
 obtain ⟨aI,a1,a2⟩:=k7 hf h1
 obtain ⟨bI,b1,b2⟩:=k7 hf h2
 unfold qY at h3
 split at h3
 case h_2=>cases h3
 rename_i xs ys
 simp only[Option.map_eq_some_iff] at h3
 obtain ⟨q,hq,rfl⟩:=h3
 simp only[b9] at a2 b2
 obtain ⟨cs,rfl,k1⟩:=a2
 obtain ⟨ds,rfl,k2⟩:=b2
 exact ⟨_,[],by simp[a8,a1,b1,TR,tB hq k1 k2],.pure (.mksc rfl)⟩
theorem bB4 (hr:HR E H heap w) (hf:FR w fr frI) {g:Bool} {x y:Operand} (h:K6 E H w fr (.eqPtr g x y) v ob fz):J2 E heap w frI n p (.eqPtr g x y) v ob fz:=by
 simp only[K6,f5,Option.bind_eq_some_iff] at h
 obtain ⟨a,h1,c,h2,h⟩:=h
 obtain ⟨aI,a1,a2⟩:=k7 hf h1
 obtain ⟨bI,b1,b2⟩:=k7 hf h2
 split at h
 ·simp only[Option.bind_eq_some_iff] at h
  obtain ⟨r,hr,h⟩:=h
  cases h
  rw[a2.scv] at a1
  rw[b2.scv] at b1
  exact ⟨_,[],by simp[a8,a1,b1,hr],.pure (.mksc rfl)⟩
 ·cases h
  rw[a2.scv] at a1
  simp only[b9] at b2
  obtain ⟨_,u,rfl,_⟩:=b2
  exact ⟨_,[],by simp[a8,a1,b1,iO],.pure (.mksc rfl)⟩
 ·cases h
  rw[b2.scv] at b1
  simp only[b9] at a2
  obtain ⟨_,u,rfl,_⟩:=a2
  exact ⟨_,[],by simp[a8,a1,b1,iO],.pure (.mksc rfl)⟩
 ·rename_i o k o' k'
  split at h
  case isFalse=>cases h
  rename_i hc
  obtain ⟨rfl,hc⟩:=hc
  split at h
  ·cases h
  rename_i hne
  cases h
  obtain ⟨obj,ho⟩:=Option.isSome_iff_exists.1 hc
  have hnn:obj.none=false:=by
   cases obj with
   |gro t e z l=>exact absurd ho (hne t e z l)
   |_=>rfl
  obtain ⟨b,blk,m1,m2,m3⟩:=hr.obj o _ ho hnn
  simp only[b9] at a2 b2
  obtain ⟨_,u,rfl,q1⟩:=a2
  obtain ⟨_,u',rfl,q2⟩:=b2
  rw[q1 b m1] at a1
  rw[q2 b m1] at b1
  refine ⟨_,[],?_,.pure (.mksc rfl)⟩
  simp[a8,a1,b1,iO]
 ·cases h
theorem bB7 (hr:HR E H heap w) (hf:FR w fr frI) {x:Operand} (h:K6 E H w fr (.toUns x) v ob fz):J2 E heap w frI n p (.toUns x) v ob fz:=by
 simp only[K6,f5,Option.bind_eq_some_iff] at h
 obtain ⟨a,h1,h⟩:=h
 obtain ⟨aI,a1,a2⟩:=k7 hf h1
 split at h
 ·cases h
  rw[a2.scv] at a1
  exact ⟨_,[],by simp[a8,a1],.pure (.mksc rfl)⟩
 ·rename_i o k
  split at h
  case h_2=>cases h
  rename_i t e0 l ho
  split at h
  case isFalse=>cases h
  rename_i hk
  cases h
  obtain ⟨b,blk,m1,m2,m3⟩:=hr.obj o _ ho rfl
  have a2':=a2
  simp only[b9] at a2
  obtain ⟨_,u,rfl,q⟩:=a2
  have:=q b m1
  subst this
  refine ⟨_,[],?_,.pure a2'⟩
  simp only[a8,a1,Option.bind_some,OA,m2]
  rw[if_pos (by rw[Nat.blt_eq] at hk ⊢;rw[m3.2.2.2.length];exact hk)]
 ·cases h
theorem WB (hr:HR E H heap w) (hf:FR w fr frI) {t:TypeId} {m:Nat} {x:Operand} (h:K6 E H w fr (.fromUns t m x) v ob fz):J2 E heap w frI n p (.fromUns t m x) v ob fz:=by
 simp only[K6,f5,Option.bind_eq_some_iff] at h
 obtain ⟨a,h1,h⟩:=h
 obtain ⟨aI,a1,a2⟩:=k7 hf h1
 split at h
 ·cases h
  rw[a2.scv] at a1
  exact ⟨_,[],by simp[a8,a1],.pure (.mksc rfl)⟩
 ·rename_i o k
  split at h
  case h_2=>cases h
  rename_i t' e0 l ho
  split at h
  case isFalse=>cases h
  rename_i hk
  cases h
  obtain ⟨b,blk,m1,m2,m3⟩:=hr.obj o _ ho rfl
  have a2':=a2
  simp only[b9] at a2
  obtain ⟨_,u,rfl,q⟩:=a2
  have:=q b m1
  subst this
  refine ⟨_,[],?_,.pure a2'⟩
  simp only[a8,a1,Option.bind_some,jZ,m2]
  simp only[Bool.and_eq_true] at hk
  rw[if_pos (by simp only[Bool.and_eq_true,Bool.not_eq_true'];rw[m3.2.2.1,m3.2.1,m3.2.2.2.length];exact ⟨⟨⟨⟨hk.1.1.1,rfl⟩,hk.1.1.2⟩,hk.1.2⟩,hk.2⟩)]
 ·cases h
theorem bB6 (hf:FR w fr frI) {x:Operand} (h:K6 E H w fr (.sdata x) v ob fz):J2 E heap w frI n p (.sdata x) v ob fz:=by
 simp only[K6,f5,Option.bind_eq_some_iff] at h
 obtain ⟨a,h1,h⟩:=h
 obtain ⟨aI,a1,a2⟩:=k7 hf h1
 split at h
 ·cases h
  rw[a2.scv] at a1
  exact ⟨_,[],by simp[a8,a1],.pure (.mksc rfl)⟩
 ·rename_i o k j c
  split at h
  ·cases h
  rename_i hc
  cases h
  simp only[b9] at a2
  obtain ⟨q1,q2,u,rfl,q⟩:=a2
  refine ⟨_,[],by simp only[a8,a1,Option.bind_some];rw[if_neg hc],.pure ?_⟩
  simp only[b9]
  exact ⟨q1,u,rfl,q⟩
 ·rename_i s o j
  split at h
  ·cases h
  rename_i hc
  rw[f8] at hc
  cases h
  simp only[b9] at a2
  rcases a2 with ⟨q1,⟨h0,_⟩|⟨_,u,rfl,q⟩⟩
  ·exact absurd h0 hc
  refine ⟨.pointer (some ⟨u,0,some 0⟩),[],?_,.pure ?_⟩
  ·simp only[a8,a1,Option.bind_some]
   rw[if_neg]
   simp only[Bool.or_eq_true,f8]
   unfold v7
   omega
  ·simp only[b9]
   exact ⟨q1,u,rfl,q⟩
 ·cases h
theorem ZS {z:List Value} {p:Value→Bool} (h:z.all p=true):∀ n,(rep z n).all p=true
 |0=>rfl
 |n+1=>by simp only[rep,List.all_append,Bool.and_eq_true];exact ⟨h,ZS h n⟩
theorem bV2 {z:List Value} (h:z ≠ []) {n:Nat} (hn:0<n):rep z n ≠ []:=by
 cases n with
 |zero=>exact absurd hn (Nat.lt_irrefl 0)
 |succ n=>cases z with
  |nil=>exact absurd rfl h
  |cons a r=>simp[rep]
theorem bA8 (hr:HR E H heap w) (hf:FR w fr frI) {t:TypeId} {e b:Nat} {z:List Value} {x y:Operand} (h:K6 E H w fr (.appMk t e b z x y) v ob fz):J2 E heap w frI n p (.appMk t e b z x y) v ob fz:=by
 simp only[K6,f5,Option.bind_eq_some_iff] at h
 obtain ⟨a,h1,c,h2,h⟩:=h
 obtain ⟨xI,a1,hx⟩:=k7 hf h1
 obtain ⟨bI,b1,b2⟩:=k7 hf h2
 unfold AR at h
 split at h
 case h_2=>cases h
 rename_i k
 rw[b2.scv] at b1
 have fin:∀ {vI:Value} {bs:List u5},mQ E ⟨heap,n,p⟩ t e b z xI (.int .i64 k)=some (vI,bs)→iE heap w n v ob fz vI bs→J2 E heap w frI n p (.appMk t e b z x y) v ob fz:=fun h1 h2=>
  ⟨_,_,by simp only[a8,a1,b1,Option.bind_some];exact h1,h2⟩
 split at h
 ·rename_i h0
  subst h0
  have key:∀ {a:Option Addr} {k c:Nat},xI= .slice a k c→F4 k c→mQ E ⟨heap,n,p⟩ t e b z xI (.int .i64 0)=some (xI,[]):=by
   intro a k c e1 e2
   subst e1
   simp only[mQ]
   rw[if_pos trivial,if_pos (by rw[Nat.ble_eq];exact e2)]
  split at h
  ·split at h
   case isFalse=>cases h
   rename_i hok
   cases h
   rw[aH] at hok
   have hx':=hx
   simp only[b9,u7] at hx
   rcases hx with ⟨a,c,rfl,_,k,_⟩|⟨_,rfl,_,rfl|⟨hs,_⟩⟩
   ·exact fin (key rfl k) (.pure hx')
   ·exact fin (key rfl (Nat.zero_le _)) (.pure hx')
   ·exact absurd hok (by omega)
  ·cases h
   have hx':=hx
   simp only[b9] at hx
   rcases hx with ⟨hc,hn,⟨a,rfl,_⟩|⟨_,rfl,rfl,_,rfl⟩⟩
   ·exact fin (key rfl (by unfold F4;rw[E3 hc];exact hn)) (.pure hx')
   ·exact fin (key rfl (Nat.zero_le _)) (.pure hx')
  ·cases h
   have hx':=hx
   simp only[b9] at hx
   obtain ⟨_,hc,b',rfl,_⟩:=hx
   exact fin (key rfl hc) (.pure hx')
  ·cases h
   have hk:=hx.ok
   have:=hx.scv
   subst this
   simp only[C2,Bool.and_eq_true,f8] at hk
   obtain ⟨rfl,rfl⟩:=hk
   exact fin (key rfl (Nat.zero_le _)) (.pure hx)
  ·cases h
 ·rename_i h0
  split at h
  case isFalse=>cases h
  rename_i hc
  obtain ⟨c1,c2,c3,c4⟩:=hc
  have hrz:=j6.sc (w:=w) (rep z k.toNat) (ZS c3 _)
  have hrn:rep z k.toNat ≠ []:=bV2 c4 (by omega)
  have key:∀ {a:Option Addr} {j c:Nat} {old:List D},xI= .slice a j c→c<v7→c<j+k.toNat→j+k.toNat≤r6→(j+k.toNat)*b≤r6→oC E heap w e j xI (old,[])→W5 old=true→
    v= .gr 2 w.nx (j+k.toNat)→ob=some (.gro t e false (old++BI (rep z k.toNat)))→fz= []→J2 E heap w frI n p (.appMk t e b z x y) v ob fz:=by
   intro a j c old e1 g1 g2 g3 g4 g5 g7 r1 r2 r3
   subst r1 r2 r3
   obtain ⟨us,u1,u0,u3,u2⟩:=g5
   refine fin (vI:= .slice (some ⟨n,0,some 0⟩) (j+k.toNat) (v7+(j+k.toNat))) (bs:= [⟨us++rep z k.toNat,e,true,t⟩]) ?_ ⟨?_,rfl,?_,_,rfl,fun w' k1 k2 k3 k4 k5=>⟨.gr_new k4 k5 _ (by omega),rfl,rfl,rfl,
    (u2 w' k1 (fun o ho=>by cases ho) (fun o ho=>by cases ho)).append (hrz.mono k1)⟩⟩
   ·subst e1
    simp only[mQ]
    rw[if_neg h0,if_pos ⟨c1,c2⟩,if_pos (by
     simp only[Bool.and_eq_true,Nat.ble_eq,Nat.blt_eq,Bool.not_eq_true',← Bool.not_eq_true];exact ⟨⟨⟨g3,g4⟩,g1⟩,by omega⟩),u1]
    rfl
   ·cases h1:old++BI (rep z k.toNat) with
    |nil=>
     have:=congrArg List.length h1
     simp only[List.length_append,List.length_nil,BI,List.length_map] at this
     exact absurd (List.eq_nil_of_length_eq_zero (by omega)) hrn
    |cons=>rfl
   ·simp only[Obj.ok,W5,List.all_append,Bool.and_eq_true]
    exact ⟨g7,UP _⟩
  have hsn:oC E heap w e 0 (.slice none 0 0) ([],[]):=R6 ⟨[],rfl,by simp only[j6]⟩
  split at h
  ·split at h
   case isFalse=>cases h
   rename_i hc
   rw[Nat.ble_eq] at hc
   cases h
   have hk:=hx.ok
   have:=hx.scv
   subst this
   simp only[C2,Bool.and_eq_true,f8] at hk
   obtain ⟨rfl,rfl⟩:=hk
   exact key rfl (by unfold v7;omega) (by omega) (by unfold r6 at c2 ⊢;omega) (by rw[Nat.zero_add];exact hc) hsn rfl (by rw[Nat.zero_add]) rfl rfl
  ·rename_i s j c l
   split at h
   case isFalse=>cases h
   rename_i hc
   simp only[Bool.and_eq_true,Nat.ble_eq,Nat.blt_eq] at hc
   obtain ⟨g0,⟨⟨g2,g7⟩,g3⟩,g4⟩:=hc
   cases h
   have hx':=hx
   simp only[b9] at hx
   have hsrc:J8 H e j (.slk s j c l)=some (l,[]):=by
    simp only[J8]
    rw[if_pos ⟨g0,Nat.le_refl _⟩,List.take_of_length_le (by omega)]
   have hso:=V5 hr hx' hsrc (fun i hi=>by simp[Q9,W1] at hi;omega)
   rcases hx with ⟨hcb,hn,⟨a,rfl,_⟩|⟨_,rfl,rfl,_,rfl⟩⟩
   ·exact key rfl hcb g2 g3 g4 hso g7 rfl rfl rfl
   ·exact key rfl hcb g2 g3 g4 hso g7 rfl rfl rfl
  ·cases h
theorem sI (hr:HR E H heap w) (hf:FR w fr frI) {op:K8} (h:f5 E.old fr H w.nx op=some (v,ob,fz)):∃ vI bs,a8 E frI ⟨heap,n,p⟩ op=some (vI,bs)∧iE heap w n v ob fz vI bs:=by
 cases op with
 |mov x=>exact bX4 hf h
 |pick c a b=>exact bL7 hf h
 |alloc t z=>exact bA7 h
 |box t x=>exact bW9 hf h
 |build z ps=>exact bA9 hf h
 |mkRow t e n z ps=>exact bB5 hf h
 |load g a=>exact bL4 hr hf h
 |nilChk x=>exact aJ0 hf h
 |bin op x y=>exact bW8 hf h
 |eqB g x y=>exact bX1 hf h
 |eqNil k g x y=>exact bB3 hf h
 |un op x=>exact cD9 hf h
 |convI k x=>exact bB0 hf h
 |convS x=>exact bB1 hf h
 |b2s x=>exact bW7 hr hf h
 |mkSlice t e b z l c=>exact WC hf h
 |slcS x lo hi=>exact bL9 hf h
 |slc e x lo hi mx=>exact bX6 hf h
 |slcA n e x lo hi=>exact bL8 hf h
 |fldA o x=>exact bK9 hf h
 |fldV o g x=>exact bL0 hf h
 |idxS e x i=>exact bL2 hf h
 |idxA n e x i=>exact bL1 hf h
 |idxStr x i=>exact aI9 hf h
 |idxV n e g x i=>exact bL3 hf h
 |ext x i=>exact bX2 hf h
 |mkFn f a b=>exact bL5 hf h
 |mkIf t x=>exact bL6 hf h
 |len t x=>exact bX3 hf h
 |mm g x y=>exact cD8 hf h
 |app t e b x y=>exact bW6 hr hf h
 |appMk t e b z x y=>exact bA8 hr hf h
 |eqIf g l ts x y=>exact bK8 hf h
 |eqAgg g ps x y=>exact bB2 hf h
 |eqPtr g x y=>exact bB4 hr hf h
 |s2b t x=>exact bX5 hf h
 |cap x=>exact bX0 hf h
 |rangeS x=>exact aJ1 hf h
 |toUns x=>exact bB7 hr hf h
 |fromUns t n x=>exact WB hr hf h
 |sdata x=>exact bB6 hf h
 |_=>simp[f5] at h
end
section
variable {C:D0} {st:l9} {s:St} {μ:Nat→Option Nat} {F:Nat→Prop}
theorem T0 (fz:List Nat):∀ (H:E7) (i:Nat),f7 (C4 fz H) i=(f7 H i).map fun o=>if l7 i fz then o.froz else o
 | [],i=>rfl
 |(j,o)::r,i=>by
  simp only[C4]
  rw[j9,j9,T0 fz r i]
  by_cases h:i=j
  ·subst h;simp
  ·rw[if_neg h,if_neg h]
theorem bF (o:Obj):o.froz.none=o.none:=by
 cases o with
 |gro t e z l=>cases l<;>rfl
 |_=>rfl
theorem IJ (o:Obj):o.froz.ok=o.ok:=by cases o<;>rfl
theorem wW {w:VW} {o:Obj} {b:u5} (h:qJ w o b):qJ w o.froz b:=by cases o<;>exact h
theorem A1 (H:E7):C4 [] H=H:=by
 induction H with
 |nil=>rfl
 |cons x r ih=>obtain ⟨j,o⟩:=x;simp[C4,l7,ih]
theorem T9 {ro:Nat} {H:E7}:∀ {fz:List Nat},E4 ro H fz=true→∀ o ∈ fz,∃ ob,f7 H o=some ob∧ob.froz.fz=true∧ro≤o
 | [],_,o,h=>by cases h
 |i::r,h,o,ho=>by
  simp only[E4,Bool.and_eq_true,Nat.ble_eq] at h
  rcases List.mem_cons.1 ho with rfl|ho
  ·have:=h.1.2
   split at this
   ·rename_i e;exact ⟨_,e,rfl,h.1.1⟩
   ·rename_i e;exact ⟨_,e,rfl,h.1.1⟩
   ·cases this
  ·exact T9 h.2 o ho
theorem SR.hr (h:SR C st s μ F):HR C.E st.own s.heap (t8 C st s μ F):=⟨rfl,h.obj,fun b hb=>(h.lt b hb).2⟩
theorem bO6 {w:VW} {n0:Nat} {d:D} {v:Value} (h:u7 w d v) (hok:KO d=true):∀ i ∈ r9 n0 v,w.F i:=by
 intro i hi
 cases d with
 |sc x=>
  simp only[u7] at h
  rw[h.1,cG n0 x h.2] at hi
  cases hi
 |sl s n l=>
  simp only[u7] at h
  rcases h with ⟨a,c,rfl,k,_⟩|⟨_,h0,_,rfl|⟨hs,_⟩⟩
  ·obtain ⟨b,o,sp⟩:=a
   cases sp with
   |none=>simp[r9,m9] at hi
   |some sp=>
    simp only[r9,m9] at hi
    split at hi
    ·simp at hi;subst hi;exact k
    ·cases hi
  ·simp[r9,m9] at hi
  ·exact ((aH.1 hok).elim (fun h=>h hs) (fun h=>h h0)).elim
theorem xE {w:VW} {n0:Nat}:∀ {l:List D} {vs:List Value},j6 w l vs→W5 l=true→∀ i ∈ y6 n0 vs,w.F i
 | [],vs,h,_,i,hi=>by simp only[j6] at h;subst h;simp[y6] at hi
 |d::r,vs,h,hok,i,hi=>by
  simp only[j6] at h
  obtain ⟨v,vs',rfl,h1,h2⟩:=h
  simp only[W5,List.all_cons,Bool.and_eq_true] at hok
  simp only[y6,List.mem_append] at hi
  exact hi.elim (bO6 h1 hok.1 i) (xE h2 hok.2 i)
def aP (μ:Nat→Option Nat) (F:Nat→Prop) (fz:List Nat) (b:Nat):Prop:=F b∨∃ o ∈ fz,μ o=some b
theorem SR.row_cl (h:SR C st s μ F) {o b:Nat} {ob:Obj} (ho:f7 st.own o=some ob) (hr:ob.froz.fz=true) (hb:μ o=some b):∃ blk,d9 s.heap b=some blk∧∀ n,∀ i ∈ y6 n blk.cells,F i:=by
 obtain ⟨_,_,ob',e1,e2⟩:=h.dom o b hb
 rw[ho] at e1
 cases e1
 obtain ⟨b',blk,m1,m2,m3⟩:=h.obj o ob ho e2
 rw[hb] at m1
 cases m1
 refine ⟨blk,m2,?_⟩
 have hok:=(h.own o ob ho).2
 cases ob with
 |box t l=>cases hr
 |row t e g z l=>exact fun n=>xE m3.2.2.2 hok
 |gro t e z l=>exact fun n=>xE m3.2.2.2 hok
theorem SR.fin_ge (h:SR C st s μ F) {fz:List Nat} (hrow:E4 st.ro st.own fz=true) {b:Nat} (hb:aP μ F fz b):F b∨s.prot≤b:=by
 rcases hb with hb|⟨o,ho,e⟩
 ·exact .inl hb
 ·obtain ⟨ob,q1,q2,q3⟩:=T9 hrow o ho
  by_cases hz:ob.fz=true
  ·exact .inl (h.fz o ob b q1 e hz)
  ·exact .inr ((h.wr o ob b q1 e (by simpa using hz)).2 q3).1
theorem SY {E:E6} {heap:j8} {n:Nat} {blk:u5} {a:Addr} (h:a.spot=none∨a.block ≠ n):m8 E ((n,blk)::heap) a=m8 E heap a:=by
 obtain ⟨b,o,sp⟩:=a
 cases sp with
 |none=>rfl
 |some k=>
  have hb:b ≠ n:=by simpa using h
  simp only[m8]
  rw[l5,if_neg hb]
def UL (μ:Nat→Option Nat) (st:l9) (s:St):Option Obj→Nat→Option Nat
 |none=>μ
 |some _=>fun i=>if i=st.next then some s.next else μ i
theorem U6 (μ:Nat→Option Nat) (F:Nat→Prop):aP μ F []=F:=by
 funext b
 simp[aP]
theorem SR.push (h:SR C st s μ F) {v:V} {ob:Option Obj} {fz:List Nat} {vI:Value} {bs:List u5} (hP:iE s.heap (t8 C st s μ F) s.next v ob fz vI bs) (hrow:E4 st.ro st.own fz=true):
  SR C (st.push ob fz) (s.push bs) (UL μ st s ob) (aP μ F fz)∧b9 (t8 C (st.push ob fz) (s.push bs) (UL μ st s ob) (aP μ F fz)) v vI∧VW.le (t8 C st s μ F) (t8 C (st.push ob fz) (s.push bs) (UL μ st s ob) (aP μ F fz))∧(∀ b,aP μ F fz b→F b∨s.prot≤b):=by
 cases ob with
 |none=>
  obtain ⟨rfl,rfl,hv⟩:=hP
  have e:st.push none []=st:=by simp[l9.push,A1]
  rw[e,yQ,U6]
  exact ⟨h,hv,⟨fun _ _=>rfl,fun _ hb=>hb,Nat.le_refl _,fun _ _ _ hb=>hb⟩,fun _ hb=> .inl hb⟩
 |some o=>
  obtain ⟨hn,hz,hok,blk,rfl,hP⟩:=hP
  rw[Z9]
  have hne:∀ o' b,μ o'=some b→b ≠ s.next:=fun o' b e=>Nat.ne_of_lt (h.dom o' b e).1
  let μ':Nat→Option Nat:=fun i=>if i=st.next then some s.next else μ i
  have hμn:μ st.next=none:=by
   cases e:μ st.next with
   |none=>rfl
   |some b=>have:=(h.dom _ b e).2.1;omega
  have hμ':∀ i b,μ' i=some b→(i=st.next∧b=s.next)∨(i ≠ st.next∧μ i=some b):=fun i b e=>by
   simp only[μ'] at e
   split at e
   ·rename_i hi;cases e;exact .inl ⟨hi,rfl⟩
   ·rename_i hi;exact .inr ⟨hi,e⟩
  have hle:VW.le (t8 C st s μ F) (t8 C (st.push (some o) fz) ⟨(s.next,blk)::s.heap,s.next+1,s.prot⟩ μ' (aP μ F fz)):=by
   refine ⟨fun a i=>SY ?_,fun b hb=> .inl hb,by simp[l9.push],fun i b hi e=>?_⟩
   ·obtain ⟨b,o',sp⟩:=a
    cases sp with
    |none=>exact .inl rfl
    |some k=>exact .inr (Nat.ne_of_lt (h.lt b i).1)
   ·rcases hμ' i b e with ⟨hi',_⟩|⟨_,e⟩
    ·simp only at hi;omega
    ·exact e
  have hF:∀ b,aP μ F fz b→b<s.next:=by
   rintro b (hb|⟨i,_,e⟩)
   ·exact (h.lt b hb).1
   ·exact (h.dom i b e).1
  have hget':∀ b,b<s.next→d9 ((s.next,blk)::s.heap) b=d9 s.heap b:=fun b hb=>by rw[l5,if_neg (by omega)]
  obtain ⟨p1,p2⟩:=hP _ hle (fun i hi b e=> .inr ⟨i,hi,e⟩) (fun i hi b e k sp blk' hb=>by
    simp only[m8,hget' b (hF b (.inr ⟨i,hi,e⟩)),hb,Option.bind_some,x7]) (by simp[l9.push]) (by simp[μ'])
  have hown:∀ i ob',f7 (st.push (some o) fz).own i=some ob'→(i=st.next∧ob'=o)∨(i ≠ st.next∧∃ ob0,f7 st.own i=some ob0∧ob'=if l7 i fz then ob0.froz else ob0):=fun i ob' e=>by
   simp only[l9.push] at e
   rw[j9] at e
   split at e
   ·rename_i hi;cases e;exact .inl ⟨hi,rfl⟩
   ·rename_i hi
    rw[T0] at e
    simp only[Option.map_eq_some_iff] at e
    obtain ⟨ob0,e1,e2⟩:=e
    exact .inr ⟨hi,ob0,e1,e2.symm⟩
  change SR C _ _ μ' _∧b9 (t8 C _ _ μ' _) v vI∧VW.le _ (t8 C _ _ μ' _)∧_
  refine ⟨⟨?_,?_,?_,?_,?_,?_,?_,?_,?_,?_,?_,?_,?_⟩,p1,hle,?_⟩
  ·intro i ob' e hn'
   rcases hown i ob' e with ⟨rfl,rfl⟩|⟨hi,ob0,e1,rfl⟩
   ·exact ⟨s.next,blk,by simp[μ'],by simp[l5],p2⟩
   ·have hn0:ob0.none=false:=by split at hn';(rw[bF] at hn';exact hn');exact hn'
    obtain ⟨b,blk0,m1,m2,m3⟩:=h.obj i ob0 e1 hn0
    refine ⟨b,blk0,by simp[μ',hi,m1],by simp only;rw[hget' b (h.dom i b m1).1];exact m2,?_⟩
    split
    ·exact wW (m3.mono hle)
    ·exact m3.mono hle
  ·intro i ob' b e e2 hz'
   rcases hown i ob' e with ⟨rfl,rfl⟩|⟨hi,ob0,e1,rfl⟩
   ·have:b=s.next:=by rcases hμ' _ b e2 with ⟨_,hb⟩|⟨hi',_⟩;exact hb;exact absurd rfl hi'
    subst this
    exact ⟨fun hb=>Nat.lt_irrefl _ (hF _ hb),fun _=>⟨h.pr,fun hb=>by have:=(h.un _ hb).1;have:=h.n0;omega⟩⟩
   ·have e3:μ i=some b:=by rcases hμ' i b e2 with ⟨hi',_⟩|⟨_,e3⟩;exact absurd hi' hi;exact e3
    by_cases hf:l7 i fz=true
    ·rw[if_pos hf] at hz'
     obtain ⟨ob1,q1,q2,_⟩:=T9 hrow i ((j4 _ _).1 hf)
     rw[e1] at q1;cases q1
     rw[hz'] at q2;cases q2
    ·rw[if_neg hf] at hz'
     obtain ⟨w2,w3⟩:=h.wr i ob0 b e1 e3 hz'
     refine ⟨?_,w3⟩
     rintro (hb|⟨j,hj,ej⟩)
     ·exact w2 hb
     ·have:=h.inj i j b e3 ej
      subst this
      exact hf ((j4 _ _).2 hj)
  ·intro i ob' b e e2 hz'
   rcases hown i ob' e with ⟨rfl,rfl⟩|⟨hi,ob0,e1,rfl⟩
   ·rw[hz] at hz';cases hz'
   ·have e3:μ i=some b:=by rcases hμ' i b e2 with ⟨hi',_⟩|⟨_,e3⟩;exact absurd hi' hi;exact e3
    by_cases hf:l7 i fz=true
    ·exact .inr ⟨i,(j4 _ _).1 hf,e3⟩
    ·rw[if_neg hf] at hz'
     exact .inl (h.fz i ob0 b e1 e3 hz')
  ·intro i j b ei ej
   rcases hμ' i b ei with ⟨hi,hb⟩|⟨hi,ei⟩<;>rcases hμ' j b ej with ⟨hj,hb'⟩|⟨hj,ej⟩
   ·rw[hi,hj]
   ·exact absurd hb (hne j b ej)
   ·exact absurd hb' (hne i b ei)
   ·exact h.inj i j b ei ej
  ·intro i b e
   rcases hμ' i b e with ⟨rfl,rfl⟩|⟨hi,e⟩
   ·exact ⟨by simp,by simp[l9.push],o,by simp[l9.push,j9],hn⟩
   ·obtain ⟨d1,d2,ob0,d3,d4⟩:=h.dom i b e
    refine ⟨by simp only;omega,by simp only[l9.push];omega,(if l7 i fz then ob0.froz else ob0),?_,?_⟩
    ·simp only[l9.push]
     rw[j9,if_neg hi,T0,d3];rfl
    ·split
     ·rw[bF];exact d4
     ·exact d4
  ·intro b hb
   have hlt:=hF b hb
   refine ⟨by simp only;omega,?_⟩
   simp only
   rw[hget' b hlt]
   rcases hb with hb|⟨i,_,e⟩
   ·exact (h.lt b hb).2
   ·obtain ⟨_,_,ob0,d3,d4⟩:=h.dom i b e
    obtain ⟨b',blk0,m1,m2,_⟩:=h.obj i ob0 d3 d4
    rw[e] at m1;cases m1
    exact ⟨blk0,m2⟩
  ·intro b hb
   have hlt:=hF b hb
   simp only
   rw[hget' b hlt]
   rcases hb with hb|⟨i,hi,e⟩
   ·obtain ⟨blk0,c1,c2⟩:=h.cl b hb
    exact ⟨blk0,c1,fun n j hj=> .inl (c2 n j hj)⟩
   ·obtain ⟨ob0,q1,q2,_⟩:=T9 hrow i hi
    obtain ⟨blk0,c1,c2⟩:=h.row_cl q1 q2 e
    exact ⟨blk0,c1,fun n j hj=> .inl (c2 n j hj)⟩
  ·intro b hb
   obtain ⟨u1,u2⟩:=h.un b hb
   exact ⟨u1,by simp only;rw[hget' b (by have:=h.n0;omega)];exact u2⟩
  ·have:=h.n0;simp only;omega
  ·intro i ob' e
   rcases hown i ob' e with ⟨rfl,rfl⟩|⟨hi,ob0,e1,rfl⟩
   ·exact ⟨by simp[l9.push],hok⟩
   ·obtain ⟨o1,o2⟩:=h.own i ob0 e1
    refine ⟨by simp only[l9.push];omega,?_⟩
    split
    ·rw[IJ];exact o2
    ·exact o2
  ·intro b blk' e
   simp only at e ⊢
   rw[l5] at e
   split at e
   ·omega
   ·have:=h.hb b blk' e;omega
  ·have:=h.pr;simp only;omega
  ·intro i b e hi
   rcases hμ' i b e with ⟨rfl,rfl⟩|⟨_,e⟩
   ·exact h.pr
   ·exact h.pb i b e hi
  ·rintro b (hb|hb)
   ·exact .inl hb
   ·exact h.fin_ge hrow (.inr hb)
theorem SR.upd (h:SR C st s μ F) {o b:Nat} {ob:Obj} {blk:u5} (ho:f7 st.own o=some ob) (hz:ob.fz=false) (hro:st.ro≤o) (hμ:μ o=some b) (hbk:d9 s.heap b=some blk) {fz:List Nat} (hrow:E4 st.ro st.own fz=true) (hof:o ∉ fz)
  {ob':Obj} {blk':u5} (hn':ob'.none=false) (hz':ob'.fz=false) (hok:ob'.ok=true) (hrep:∀ w',VW.le (t8 C st s μ F) w'→Fin (t8 C st s μ F) w' fz→LdX s.heap (t8 C st s μ F) w' fz→qJ w' ob' blk'):
  SR C ⟨A9 (C4 fz st.own) o ob',st.next,st.ro⟩ {s with heap:=M5 s.heap b blk'} μ (aP μ F fz)∧VW.le (t8 C st s μ F) (t8 C ⟨A9 (C4 fz st.own) o ob',st.next,st.ro⟩ {s with heap:=M5 s.heap b blk'} μ (aP μ F fz))∧s.prot≤b:=by
 obtain ⟨wr2,wr1'⟩:=h.wr o ob b ho hμ hz
 obtain ⟨wr1,wr3⟩:=wr1' hro
 have hFb:¬ aP μ F fz b:=by
  rintro (hb|⟨j,hj,ej⟩)
  ·exact wr2 hb
  ·have:=h.inj o j b hμ ej
   subst this
   exact hof hj
 have hgs:∀ j,d9 (M5 s.heap b blk') j=if j=b then some blk' else d9 s.heap j:=fun j=>M1 _ _ _ _ _ hbk
 have hle:VW.le (t8 C st s μ F) (t8 C ⟨A9 (C4 fz st.own) o ob',st.next,st.ro⟩ {s with heap:=M5 s.heap b blk'} μ (aP μ F fz)):=by
  refine ⟨fun a i=>?_,fun c hc=> .inl hc,Nat.le_refl _,fun i c _ e=>e⟩
  obtain ⟨c,k,sp⟩:=a
  cases sp with
  |none=>rfl
  |some sp=>
   have hcb:c ≠ b:=fun e=>by subst e;exact wr2 i
   simp only[m8,hgs c,if_neg hcb]
 have hrp:=hrep _ hle (fun i hi c e=> .inr ⟨i,hi,e⟩) (fun i hi c e k sp blk0 hc=>by
  have hcb:c ≠ b:=fun e'=>by subst e';exact hFb (.inr ⟨i,hi,e⟩)
  simp only[m8,hgs c,if_neg hcb,hc,Option.bind_some,x7])
 have hfo:∃ x,f7 (C4 fz st.own) o=some x:=by rw[T0,ho];exact ⟨_,rfl⟩
 obtain ⟨x0,hx0⟩:=hfo
 have hown:∀ i obj,f7 (A9 (C4 fz st.own) o ob') i=some obj→(i=o∧obj=ob')∨(i ≠ o∧∃ ob0,f7 st.own i=some ob0∧obj=if l7 i fz then ob0.froz else ob0):=fun i obj e=>by
  rw[O7 _ _ _ _ _ hx0] at e
  split at e
  ·rename_i hi;cases e;exact .inl ⟨hi,rfl⟩
  ·rename_i hi
   rw[T0] at e
   simp only[Option.map_eq_some_iff] at e
   obtain ⟨ob0,e1,e2⟩:=e
   exact .inr ⟨hi,ob0,e1,e2.symm⟩
 have hne:∀ i c,i ≠ o→μ i=some c→c ≠ b:=fun i c hi e hc=>by subst hc;exact hi (h.inj i o c e hμ)
 refine ⟨⟨?_,?_,?_,h.inj,?_,?_,?_,?_,h.n0,?_,?_,h.pr,h.pb⟩,hle,wr1⟩
 ·intro i obj e hn
  rcases hown i obj e with ⟨rfl,rfl⟩|⟨hi,ob0,e1,rfl⟩
  ·exact ⟨b,blk',hμ,by simp only;rw[hgs,if_pos rfl],hrp⟩
  ·have hn0:ob0.none=false:=by split at hn;(rw[bF] at hn;exact hn);exact hn
   obtain ⟨c,blk0,m1,m2,m3⟩:=h.obj i ob0 e1 hn0
   refine ⟨c,blk0,m1,by simp only;rw[hgs,if_neg (hne i c hi m1)];exact m2,?_⟩
   split
   ·exact wW (m3.mono hle)
   ·exact m3.mono hle
 ·intro i obj c e e3 hzz
  rcases hown i obj e with ⟨rfl,rfl⟩|⟨hi,ob0,e1,rfl⟩
  ·rw[hμ] at e3;cases e3;exact ⟨hFb,fun _=>⟨wr1,wr3⟩⟩
  ·by_cases hf:l7 i fz=true
   ·rw[if_pos hf] at hzz
    obtain ⟨ob1,q1,q2,_⟩:=T9 hrow i ((j4 _ _).1 hf)
    rw[e1] at q1;cases q1
    rw[hzz] at q2;cases q2
   ·rw[if_neg hf] at hzz
    obtain ⟨w2,w3⟩:=h.wr i ob0 c e1 e3 hzz
    refine ⟨?_,w3⟩
    rintro (hb|⟨j,hj,ej⟩)
    ·exact w2 hb
    ·have:=h.inj i j c e3 ej
     subst this
     exact hf ((j4 _ _).2 hj)
 ·intro i obj c e e3 hzz
  rcases hown i obj e with ⟨rfl,rfl⟩|⟨hi,ob0,e1,rfl⟩
  ·rw[hz'] at hzz;cases hzz
  ·by_cases hf:l7 i fz=true
   ·exact .inr ⟨i,(j4 _ _).1 hf,e3⟩
   ·rw[if_neg hf] at hzz
    exact .inl (h.fz i ob0 c e1 e3 hzz)
 ·intro i c e
  obtain ⟨d1,d2,ob0,d3,d4⟩:=h.dom i c e
  refine ⟨d1,d2,?_⟩
  by_cases hi:i=o
  ·subst hi
   exact ⟨ob',by simp only;rw[O7 _ _ _ _ _ hx0,if_pos rfl],hn'⟩
  ·refine ⟨(if l7 i fz then ob0.froz else ob0),by simp only;rw[O7 _ _ _ _ _ hx0,if_neg hi,T0,d3];rfl,?_⟩
   split
   ·rw[bF];exact d4
   ·exact d4
 ·intro c hc
  have hcb:c ≠ b:=fun e=>by subst e;exact hFb hc
  simp only
  rw[hgs,if_neg hcb]
  rcases hc with hc|⟨i,_,e⟩
  ·exact h.lt c hc
  ·obtain ⟨d1,_,ob0,d3,d4⟩:=h.dom i c e
   obtain ⟨b',blk0,m1,m2,_⟩:=h.obj i ob0 d3 d4
   rw[e] at m1;cases m1
   exact ⟨d1,blk0,m2⟩
 ·intro c hc
  have hcb:c ≠ b:=fun e=>by subst e;exact hFb hc
  simp only
  rw[hgs,if_neg hcb]
  rcases hc with hc|⟨i,hi,e⟩
  ·obtain ⟨blk0,c1,c2⟩:=h.cl c hc
   exact ⟨blk0,c1,fun n j hj=> .inl (c2 n j hj)⟩
  ·obtain ⟨ob0,q1,q2,_⟩:=T9 hrow i hi
   obtain ⟨blk0,c1,c2⟩:=h.row_cl q1 q2 e
   exact ⟨blk0,c1,fun n j hj=> .inl (c2 n j hj)⟩
 ·intro c hc
  obtain ⟨u1,u2⟩:=h.un c hc
  have hcb:c ≠ b:=fun e=>by subst e;exact wr3 hc
  exact ⟨u1,by simp only;rw[hgs,if_neg hcb];exact u2⟩
 ·intro i obj e
  rcases hown i obj e with ⟨rfl,rfl⟩|⟨hi,ob0,e1,rfl⟩
  ·exact ⟨(h.own i ob ho).1,hok⟩
  ·obtain ⟨o1,o2⟩:=h.own i ob0 e1
   refine ⟨o1,?_⟩
   split
   ·rw[IJ];exact o2
   ·exact o2
 ·intro c blk0 e
  simp only at e ⊢
  rw[hgs] at e
  split at e
  ·rename_i hc;subst hc;exact h.hb c blk hbk
  ·exact h.hb c blk0 e
theorem G7:∀ (h:j8) (i j:Nat),j ≠ i→d9 (G6 h i) j=d9 h j
 | [],i,j,_=>rfl
 |(k,u)::r,i,j,hj=>by
  simp only[G6]
  split
  ·rename_i hk
   have:=f8.1 hk
   subst this
   rw[l5,if_neg hj]
  ·rw[l5,l5,G7 r i j hj]
theorem bV:∀ (h:j8) (i j:Nat) (b:u5),d9 (G6 h i) j=some b→∃ c,d9 h j=some c
 | [],i,j,b,h=>by cases h
 |(k,u)::r,i,j,b,h=>by
  simp only[G6] at h
  rw[l5]
  split at h
  ·split
   ·exact ⟨_,rfl⟩
   ·exact ⟨_,h⟩
  ·rw[l5] at h
   split
   ·exact ⟨_,rfl⟩
   ·rename_i hj
    rw[if_neg hj] at h
    exact bV r i j b h
theorem SR.del (h:SR C st s μ F) {o b:Nat} {ob:Obj} (ho:f7 st.own o=some ob) (hz:ob.fz=false) (hro:st.ro≤o) (hμ:μ o=some b):
  SR C ⟨I2 o st.own,st.next,st.ro⟩ {s with heap:=G6 s.heap b} (fun i=>if i=o then none else μ i) F∧VW.le (t8 C st s μ F) (t8 C ⟨I2 o st.own,st.next,st.ro⟩ {s with heap:=G6 s.heap b} (fun i=>if i=o then none else μ i) F)∧s.prot≤b:=by
 obtain ⟨wr2,wr1'⟩:=h.wr o ob b ho hμ hz
 obtain ⟨wr1,wr3⟩:=wr1' hro
 have hle:VW.le (t8 C st s μ F) (t8 C ⟨I2 o st.own,st.next,st.ro⟩ {s with heap:=G6 s.heap b} (fun i=>if i=o then none else μ i) F):=by
  refine ⟨fun a i=>?_,fun c hc=>hc,Nat.le_refl _,fun i c _ e=>?_⟩
  ·obtain ⟨c,k,sp⟩:=a
   cases sp with
   |none=>rfl
   |some sp=>
    have hcb:c ≠ b:=fun e=>by subst e;exact wr2 i
    simp only[m8,G7 _ _ _ hcb]
  ·simp only at e
   split at e
   ·cases e
   ·exact e
 have hown:∀ i obj,f7 (I2 o st.own) i=some obj→i ≠ o∧f7 st.own i=some obj:=fun i obj e=>by
  rw[H0] at e
  split at e
  ·cases e
  ·rename_i hi;exact ⟨hi,e⟩
 have hne:∀ i c,i ≠ o→μ i=some c→c ≠ b:=fun i c hi e hc=>by subst hc;exact hi (h.inj i o c e hμ)
 refine ⟨⟨?_,?_,?_,?_,?_,?_,?_,?_,h.n0,?_,?_,h.pr,fun i c e hi=>?_⟩,hle,wr1⟩
 ·intro i obj e hn
  obtain ⟨hi,e1⟩:=hown i obj e
  obtain ⟨c,blk0,m1,m2,m3⟩:=h.obj i obj e1 hn
  exact ⟨c,blk0,by rw[if_neg hi];exact m1,by simp only;rw[G7 _ _ _ (hne i c hi m1)];exact m2,m3.mono hle⟩
 ·intro i obj c e e3 hzz
  obtain ⟨hi,e1⟩:=hown i obj e
  simp only[if_neg hi] at e3
  exact h.wr i obj c e1 e3 hzz
 ·intro i obj c e e3 hzz
  obtain ⟨hi,e1⟩:=hown i obj e
  simp only[if_neg hi] at e3
  exact h.fz i obj c e1 e3 hzz
 ·intro i j c e1 e2
  split at e1
  ·cases e1
  ·split at e2
   ·cases e2
   ·exact h.inj i j c e1 e2
 ·intro i c e
  split at e
  ·cases e
  ·rename_i hi
   obtain ⟨d1,d2,ob0,d3,d4⟩:=h.dom i c e
   exact ⟨d1,d2,ob0,by simp only;rw[H0,if_neg hi];exact d3,d4⟩
 ·intro c hc
  have hcb:c ≠ b:=fun e=>by subst e;exact wr2 hc
  rw[G7 _ _ _ hcb]
  exact h.lt c hc
 ·intro c hc
  have hcb:c ≠ b:=fun e=>by subst e;exact wr2 hc
  rw[G7 _ _ _ hcb]
  exact h.cl c hc
 ·intro c hc
  obtain ⟨u1,u2⟩:=h.un c hc
  have hcb:c ≠ b:=fun e=>by subst e;exact wr3 hc
  exact ⟨u1,by simp only;rw[G7 _ _ _ hcb];exact u2⟩
 ·intro i obj e
  obtain ⟨hi,e1⟩:=hown i obj e
  exact h.own i obj e1
 ·intro c blk0 e
  obtain ⟨c',e'⟩:=bV _ _ _ _ e
  exact h.hb c c' e'
 ·split at e
  ·cases e
  ·exact h.pb i c e hi
end
section
variable {C:D0} {st st':l9} {s:St} {μ:Nat→Option Nat} {F:Nat→Prop} {fr:E0} {frI:Fr} {v:V}
theorem pR {α:Type}:∀ {l:List α} {k:Nat} {cs r:List α},E1 l k cs=some r→r.length=l.length
 |l,k,[],r,h=>by
  have:r=l:=by cases l<;>cases k<;>simp[E1] at h<;>first|exact h|exact h.symm
  rw[this]
 | [],k,c::cs,r,h=>by cases k<;>simp[E1] at h
 |x::l,0,c::cs,r,h=>by
  simp only[E1,Option.map_eq_some_iff] at h
  obtain ⟨r',h1,rfl⟩:=h
  simp[pR h1]
 |x::l,k+1,c::cs,r,h=>by
  simp only[E1,Option.map_eq_some_iff] at h
  obtain ⟨r',h1,rfl⟩:=h
  simp[pR h1]
theorem dW {α:Type}:∀ {l:List α} {k:Nat} {cs r:List α} {ls vs:List Value},E1 l k cs=some r→ls.length=l.length→vs.length=cs.length→∃ rs,Q1 ls k vs=some rs
 |l,k,[],r,ls,vs,h,h1,h2=>by
  have:=List.eq_nil_of_length_eq_zero h2
  subst this
  exact ⟨ls,by cases ls<;>cases k<;>rfl⟩
 | [],k,c::cs,r,ls,vs,h,h1,h2=>by cases k<;>simp[E1] at h
 |x::l,k,c::cs,r,[],vs,h,h1,h2=>by simp at h1
 |x::l,k,c::cs,r,y::ls,[],h,h1,h2=>by simp at h2
 |x::l,0,c::cs,r,y::ls,z::vs,h,h1,h2=>by
  simp only[E1,Option.map_eq_some_iff] at h
  obtain ⟨r',hr',rfl⟩:=h
  obtain ⟨rs,g1⟩:=dW hr' (by simpa using h1) (by simpa using h2)
  exact ⟨z::rs,by simp[Q1,g1]⟩
 |x::l,k+1,c::cs,r,y::ls,z::vs,h,h1,h2=>by
  simp only[E1,Option.map_eq_some_iff] at h
  obtain ⟨r',hr',rfl⟩:=h
  obtain ⟨rs,g1⟩:=dW (cs:=c::cs) (vs:=z::vs) hr' (by simpa using h1) (by simpa using h2)
  exact ⟨y::rs,by simp[Q1,g1]⟩
theorem VW.le.refl (w:VW):VW.le w w:=⟨fun _ _=>rfl,fun _ h=>h,Nat.le_refl _,fun _ _ _ h=>h⟩
theorem VW.le.trans {a b c:VW} (h:VW.le a b) (k:VW.le b c):VW.le a c:=
 ⟨fun x i=>(k.ld x (h.inF i)).trans (h.ld x i),fun x i=>k.F x (h.F x i),Nat.le_trans h.nx k.nx,fun o x ho e=>h.μ o x ho (k.μ o x (Nat.lt_of_lt_of_le ho h.nx) e)⟩
def SW (C:D0) (st:l9) (s:St) (μ:Nat→Option Nat) (F:Nat→Prop) (r:Option (Value × St)) (v:V) (st':l9):Prop:=
 ∃ vI s' μ' F',r=some (vI,s')∧SR C st' s' μ' F'∧b9 (t8 C st' s' μ' F') v vI∧VW.le (t8 C st s μ F) (t8 C st' s' μ' F')∧s'.prot=s.prot∧s.next≤s'.next∧∀ b,F' b→F b∨s.prot≤b
theorem O8 {b k:Nat} {blk:u5} {vs cs:List Value} (hb:d9 s.heap b=some blk) (hp:s.prot≤b) (h1:vs.all A8=true) (hl:Q1 blk.cells k vs=some cs):
  S3 s ⟨b,k,some 0⟩ vs=some {s with heap:=M5 s.heap b {blk with cells:=cs}}:=by
 simp only[S3,hb,Option.bind_some]
 rw[if_pos (by rw[Nat.ble_eq];exact hp),if_pos h1,hl]
 rfl
theorem zX {E:E6} {op:K8} {r:Option (Value × St)} (h1:a8 E frI s op=none) (h2:o9 E frI s op=r):step E frI s op=r:=by
 simp only[step,h1,h2]
theorem SS {i j:Nat}:Nat.beq i j=false↔i ≠ j:=by rw[← Bool.not_eq_true,f8]
theorem LH {i j:Nat}:(!Nat.ble i j)=false↔i≤j:=by
 rw[Bool.not_eq_false',Nat.ble_eq]
def bW1 (s:St) (n:Nat) (aI uI:Value):Option (Value × St):=
 match aI with
 | .pointer (some a)=>if Nat.beq uI.cells.toList.length n then (S3 s a uI.cells.toList).map (.tuple #[],·) else none
 |_=>none
def WV (E:E6) (s:St) (e:Nat) (dI xI:Value):Option (Value × St):=
 match dI with
 | .slice a n _=>(lenA xI).bind fun m=>(n8 E s.heap e (Nat.min m n) xI).bind fun cs=>
   match a with
   |some a=>(S3 s a cs).map (.int .i64 (Nat.min m n),·)
   |none=>some (.int .i64 (Nat.min m n),s)
 |_=>none
theorem aJ3 (h:SR C st s μ F) {n:Nat} {a u:V} {aI uI:Value} (ha:b9 (t8 C st s μ F) a aI) (hu:b9 (t8 C st s μ F) u uI) (hs:KG st n a u=some st'):
  SW C st s μ F (bW1 s n aI uI) (.tup []) st':=by
 simp only[KG,Option.bind_eq_some_iff] at hs
 obtain ⟨cs,hc,hs⟩:=hs
 split at hs
 case isFalse=>cases hs
 rename_i hn
 obtain ⟨c1,c2⟩:=gH hu hc
 have hone:=c1.one c2
 split at hs
 case h_2=>cases hs
 rename_i o k
 split at hs
 ·cases hs
 rename_i hro
 simp only[Bool.not_eq_true,LH] at hro
 simp only[b9] at ha
 obtain ⟨_,b',rfl,q⟩:=ha
 have htup:∀ w:VW,b9 w (.tup []) (.tuple #[]):=fun w=>by simp only[b9,d8];exact ⟨[],rfl,rfl⟩
 have fin:∀ {ob:Obj} {b:Nat} {blk:u5} {fz:List Nat} {ob':Obj} {cs':List Value},f7 st.own o=some ob→ob.fz=false→μ o=some b→d9 s.heap b=some blk→E4 st.ro st.own fz=true→o ∉ fz→ob'.none=false→ob'.fz=false→ob'.ok=true→
   Q1 blk.cells k uI.cells.toList=some cs'→(∀ w',VW.le (t8 C st s μ F) w'→Fin (t8 C st s μ F) w' fz→LdX s.heap (t8 C st s μ F) w' fz→qJ w' ob' {blk with cells:=cs'})→st'=⟨A9 (C4 fz st.own) o ob',st.next,st.ro⟩→
   SW C st s μ F (if Nat.beq uI.cells.toList.length n then (S3 s ⟨b',k,some 0⟩ uI.cells.toList).map (.tuple #[],·) else none) (.tup []) st':=by
  intro ob b blk fz ob' cs' e1 e2 e3 e4 e5 e6 e7 e8 e9 e10 e11 e12
  have:=q b e3
  subst this
  obtain ⟨g1,g2,g3⟩:=h.upd e1 e2 hro e3 e4 e5 e6 e7 e8 e9 e11
  subst e12
  refine ⟨.tuple #[],_,μ,aP μ F fz,?_,g1,htup _,g2,rfl,Nat.le_refl _,fun c hcf=>h.fin_ge e5 hcf⟩
  rw[c1.length,if_pos hn,O8 e4 g3 hone e10]
  rfl
 split at hs
 ·rename_i t e0 l ho
  simp only[Option.map_eq_some_iff] at hs
  obtain ⟨l',hl,rfl⟩:=hs
  obtain ⟨b,blk,m1,m2,m3⟩:=h.obj o _ ho rfl
  obtain ⟨rs,r1,r2⟩:=lC hl m3.2.2.2 c1
  exact fin (fz:= []) (ob':= .box t e0 l') ho rfl m1 m2 rfl (by simp) rfl rfl rfl r1 (fun w' k1 k2 k3=>⟨m3.1,m3.2.1,m3.2.2.1,r2.mono k1⟩) (by rw[A1])
 ·rename_i t e g z l ho
  split at hs
  ·cases hs
  rename_i hcond
  simp only[Bool.or_eq_true,Bool.not_eq_true',not_or,Bool.not_eq_true,Bool.not_eq_false] at hcond
  obtain ⟨⟨hz,hof⟩,hrow⟩:=hcond
  simp only[Option.bind_eq_some_iff,Option.map_eq_some_iff] at hs
  obtain ⟨ds,hd,l',hl,rfl⟩:=hs
  obtain ⟨b,blk,m1,m2,m3⟩:=h.obj o _ ho rfl
  have hds:∀ w',VW.le (t8 C st s μ F) w'→Fin (t8 C st s μ F) w' (lX cs)→LdX s.heap (t8 C st s μ F) w' (lX cs)→∃ rs,Q1 blk.cells k uI.cells.toList=some rs∧j6 w' l' rs:=fun w' k1 k2 k3=>S0 hl (m3.2.2.2.mono k1) (uT h.hr k1 c1 hd k2 k3).1
  have hlen:∃ rs,Q1 blk.cells k uI.cells.toList=some rs:=dW hl m3.2.2.2.length (by rw[c1.length,eH hd])
  obtain ⟨rs,hrs⟩:=hlen
  refine fin (fz:=lX cs) (ob':= .row t e g false l') ho hz m1 m2 hrow (fun hm=>by have:=(j4 _ _).2 hm;rw[hof] at this;cases this) rfl rfl ?_ hrs (fun w' k1 k2 k3=>?_) rfl
  ·exact L8 hl (h.own o _ ho).2 (AF hd)
  ·obtain ⟨rs',q1,q2⟩:=hds w' k1 k2 k3
   rw[hrs] at q1;cases q1
   exact ⟨m3.1,m3.2.1,m3.2.2.1,q2⟩
 ·rename_i t e z l ho
  split at hs
  ·cases hs
  rename_i hcond
  simp only[Bool.or_eq_true,Bool.not_eq_true',not_or,Bool.not_eq_true,Bool.not_eq_false] at hcond
  obtain ⟨⟨⟨hz,hof⟩,hce⟩,hrow⟩:=hcond
  simp only[Option.bind_eq_some_iff,Option.map_eq_some_iff] at hs
  obtain ⟨ds,hd,l',hl,rfl⟩:=hs
  have hl0:l ≠ []∧l'.length=l.length:=by
   refine ⟨fun e0=>?_,pR hl⟩
   subst e0
   cases ds with
   |nil=>have:=eH hd;cases cs with|nil=>cases hce|cons=>simp at this
   |cons=>cases k<;>simp[E1] at hl
  obtain ⟨b,blk,m1,m2,m3⟩:=h.obj o _ ho (by cases l with|nil=>exact absurd rfl hl0.1|cons=>rfl)
  have hds:∀ w',VW.le (t8 C st s μ F) w'→Fin (t8 C st s μ F) w' (lX cs)→LdX s.heap (t8 C st s μ F) w' (lX cs)→∃ rs,Q1 blk.cells k uI.cells.toList=some rs∧j6 w' l' rs:=fun w' k1 k2 k3=>S0 hl (m3.2.2.2.mono k1) (uT h.hr k1 c1 hd k2 k3).1
  have hlen:∃ rs,Q1 blk.cells k uI.cells.toList=some rs:=dW hl m3.2.2.2.length (by rw[c1.length,eH hd])
  obtain ⟨rs,hrs⟩:=hlen
  refine fin (fz:=lX cs) (ob':= .gro t e false l') ho hz m1 m2 hrow (fun hm=>by have:=(j4 _ _).2 hm;rw[hof] at this;cases this) ?_ rfl ?_ hrs (fun w' k1 k2 k3=>?_) rfl
  ·cases l' with
   |nil=>exact absurd (List.eq_nil_of_length_eq_zero hl0.2.symm) hl0.1
   |cons=>rfl
  ·exact L8 hl (h.own o _ ho).2 (AF hd)
  ·obtain ⟨rs',q1,q2⟩:=hds w' k1 k2 k3
   rw[hrs] at q1;cases q1
   exact ⟨m3.1,m3.2.1,m3.2.2.1,q2⟩
 ·cases hs
theorem rW {ro o:Nat} {H:E7}:∀ {fz:List Nat},E4 ro H fz=true→l7 o fz=false→E4 ro (I2 o H) fz=true
 | [],_,_=>rfl
 |i::r,h,hn=>by
  simp only[E4,Bool.and_eq_true] at h ⊢
  simp only[l7] at hn
  split at hn
  ·cases hn
  rename_i hi
  rw[f8] at hi
  refine ⟨⟨h.1.1,?_⟩,rW h.2 hn⟩
  rw[H0,if_neg (fun e=>hi e.symm)]
  exact h.1.2
theorem SR.grow (h:SR C st s μ F) {o b:Nat} {ob:Obj} {blk:u5} (ho:f7 st.own o=some ob) (hz:ob.fz=false) (hro:st.ro≤o) (hμ:μ o=some b) (hb:d9 s.heap b=some blk) {t:TypeId} {e m:Nat} {l:List D} {cs:List Value} {fz:List Nat}
  (hl:l ≠ []) (hok:W5 l=true) (hm:m ≠ 0) (hrow:E4 st.ro st.own fz=true) (hof:l7 o fz=false) (hr:∀ w',VW.le (t8 C st s μ F) w'→Fin (t8 C st s μ F) w' fz→LdX s.heap (t8 C st s μ F) w' fz→j6 w' l cs):
  SW C st s μ F (some (.slice (some ⟨s.next,0,some 0⟩) m (v7+m),St.push {s with heap:=G6 s.heap b} [⟨cs,e,true,t⟩])) (.gr 2 st.next m) ⟨(st.next,.gro t e false l)::C4 fz (I2 o st.own),st.next+1,st.ro⟩∧s.prot≤b:=by
 obtain ⟨d1,d2,d3⟩:=h.del ho hz hro hμ
 have hP:iE (G6 s.heap b) (t8 C ⟨I2 o st.own,st.next,st.ro⟩ {s with heap:=G6 s.heap b} (fun i=>if i=o then none else μ i) F) s.next (.gr 2 st.next m) (some (.gro t e false l)) fz (.slice (some ⟨s.next,0,some 0⟩) m (v7+m)) [⟨cs,e,true,t⟩]:=
  ⟨by cases l with|nil=>exact absurd rfl hl|cons=>rfl,rfl,hok,_,rfl,fun w' k1 k2 k3 k4 k5=>⟨.gr_new k4 k5 m hm,rfl,rfl,rfl,hr w' (d2.trans k1) (fun i hi c e=>by
   refine k2 i hi c ?_
   have hio:i ≠ o:=fun e=>by subst e;have:=(j4 i fz).2 hi;rw[hof] at this;cases this
   simp only[if_neg hio];exact e) (fun i hi c e k sp bb hbb=>by
   have hio:i ≠ o:=fun e=>by subst e;have:=(j4 i fz).2 hi;rw[hof] at this;cases this
   have hcb:c ≠ b:=fun ec=>by subst ec;exact hio (h.inj i o c e hμ)
   exact k3 i hi c (by simp only[if_neg hio];exact e) k sp bb (by rw[G7 _ _ _ hcb];exact hbb))⟩⟩
 obtain ⟨p1,p2,p3,p4⟩:=d1.push hP (rW hrow hof)
 exact ⟨⟨_,_,_,_,rfl,p1,p2,d2.trans p3,rfl,by simp[St.push],p4⟩,d3⟩
theorem N6 {t:TypeId} {e:Nat} {z:Bool} {l:List D} (h:l ≠ []):(Obj.gro t e z l).none=false:=by
 cases l with
 |nil=>exact absurd rfl h
 |cons=>rfl
theorem SR.drop0 (h:SR C st s μ F) {o:Nat} {ob:Obj} (ho:f7 st.own o=some ob) (hn:ob.none=true):SR C ⟨I2 o st.own,st.next,st.ro⟩ s μ F:=by
 have hown:∀ i obj,f7 (I2 o st.own) i=some obj→i ≠ o∧f7 st.own i=some obj:=fun i obj e=>by
  rw[H0] at e
  split at e
  ·cases e
  ·rename_i hi;exact ⟨hi,e⟩
 refine ⟨fun i obj e hh=>h.obj i obj (hown i obj e).2 hh,fun i obj b e=>h.wr i obj b (hown i obj e).2,fun i obj b e=>h.fz i obj b (hown i obj e).2,h.inj,fun i b e=>?_,h.lt,h.cl,h.un,h.n0,fun i obj e=>h.own i obj (hown i obj e).2,h.hb,h.pr,h.pb⟩
 obtain ⟨d1,d2,ob',d3,d4⟩:=h.dom i b e
 refine ⟨d1,d2,ob',?_,d4⟩
 simp only
 rw[H0,if_neg]
 ·exact d3
 ·intro hi
  subst hi
  rw[ho] at d3
  cases d3
  rw[hn] at d4
  cases d4
theorem SR.rename (h:SR C st s μ F) {o:Nat} {ob:Obj} (ho:f7 st.own o=some ob) (hro:st.ro≤o):
  SR C ⟨(st.next,ob)::I2 o st.own,st.next+1,st.ro⟩ s (fun i=>if i=st.next then μ o else if i=o then none else μ i) F∧VW.le (t8 C st s μ F) (t8 C ⟨(st.next,ob)::I2 o st.own,st.next+1,st.ro⟩ s (fun i=>if i=st.next then μ o else if i=o then none else μ i) F):=by
 have hon:o<st.next:=(h.own o ob ho).1
 have hle:VW.le (t8 C st s μ F) (t8 C ⟨(st.next,ob)::I2 o st.own,st.next+1,st.ro⟩ s (fun i=>if i=st.next then μ o else if i=o then none else μ i) F):=by
  refine ⟨fun _ _=>rfl,fun _ h=>h,Nat.le_succ _,fun i b hi e=>?_⟩
  simp only at hi e
  rw[if_neg (by omega)] at e
  split at e
  ·cases e
  ·exact e
 have hown:∀ i obj,f7 ((st.next,ob)::I2 o st.own) i=some obj→(i=st.next∧obj=ob)∨(i ≠ st.next∧i ≠ o∧f7 st.own i=some obj):=fun i obj e=>by
  rw[j9] at e
  split at e
  ·rename_i hi;cases e;exact .inl ⟨hi,rfl⟩
  ·rename_i hi
   rw[H0] at e
   split at e
   ·cases e
   ·rename_i hi2;exact .inr ⟨hi,hi2,e⟩
 have hmu:∀ i b,(if i=st.next then μ o else if i=o then none else μ i)=some b→(i=st.next∧μ o=some b)∨(i ≠ st.next∧i ≠ o∧μ i=some b):=fun i b e=>by
  split at e
  ·rename_i hi;exact .inl ⟨hi,e⟩
  ·rename_i hi
   split at e
   ·cases e
   ·rename_i hi2;exact .inr ⟨hi,hi2,e⟩
 refine ⟨⟨?_,?_,?_,?_,?_,h.lt,h.cl,h.un,h.n0,?_,h.hb,h.pr,?_⟩,hle⟩
 ·intro i obj e hn
  rcases hown i obj e with ⟨rfl,rfl⟩|⟨h1,h2,e1⟩
  ·obtain ⟨b,blk,m1,m2,m3⟩:=h.obj o _ ho hn
   exact ⟨b,blk,by rw[if_pos rfl];exact m1,m2,m3.mono hle⟩
  ·obtain ⟨b,blk,m1,m2,m3⟩:=h.obj i obj e1 hn
   exact ⟨b,blk,by rw[if_neg h1,if_neg h2];exact m1,m2,m3.mono hle⟩
 ·intro i obj b e e2 hz
  rcases hown i obj e with ⟨rfl,rfl⟩|⟨h1,h2,e1⟩
  ·rcases hmu _ b e2 with ⟨_,e3⟩|⟨h3,_⟩
   ·obtain ⟨q1,q2⟩:=h.wr o _ b ho e3 hz
    exact ⟨q1,fun _=>q2 hro⟩
   ·exact absurd rfl h3
  ·rcases hmu i b e2 with ⟨h3,_⟩|⟨_,_,e3⟩
   ·exact absurd h3 h1
   ·exact h.wr i obj b e1 e3 hz
 ·intro i obj b e e2 hz
  rcases hown i obj e with ⟨rfl,rfl⟩|⟨h1,h2,e1⟩
  ·rcases hmu _ b e2 with ⟨_,e3⟩|⟨h3,_⟩
   ·exact h.fz o _ b ho e3 hz
   ·exact absurd rfl h3
  ·rcases hmu i b e2 with ⟨h3,_⟩|⟨_,_,e3⟩
   ·exact absurd h3 h1
   ·exact h.fz i obj b e1 e3 hz
 ·intro i j b e e'
  rcases hmu i b e with ⟨h1,e1⟩|⟨h1,h2,e1⟩<;>rcases hmu j b e' with ⟨h3,e3⟩|⟨h3,h4,e3⟩
  ·rw[h1,h3]
  ·exact absurd (h.inj o j b e1 e3).symm h4
  ·exact absurd (h.inj i o b e1 e3) h2
  ·exact h.inj i j b e1 e3
 ·intro i b e
  rcases hmu i b e with ⟨rfl,e1⟩|⟨h1,h2,e1⟩
  ·obtain ⟨d1,d2,ob',d3,d4⟩:=h.dom o b e1
   rw[ho] at d3
   cases d3
   exact ⟨d1,by simp,ob,by simp only;rw[j9,if_pos rfl],d4⟩
  ·obtain ⟨d1,d2,ob',d3,d4⟩:=h.dom i b e1
   exact ⟨d1,by simp only;omega,ob',by simp only;rw[j9,if_neg h1,H0,if_neg h2];exact d3,d4⟩
 ·intro i obj e
  rcases hown i obj e with ⟨rfl,rfl⟩|⟨h1,h2,e1⟩
  ·exact ⟨by simp,(h.own o _ ho).2⟩
  ·exact ⟨by have:=(h.own i obj e1).1;simp only;omega,(h.own i obj e1).2⟩
 ·intro i b e hr
  rcases hmu i b e with ⟨rfl,e1⟩|⟨h1,h2,e1⟩
  ·exact h.pb o b e1 hro
  ·exact h.pb i b e1 hr
theorem aH6 {H:E7} {e:Nat} {v:V} {r:List D × List Nat} (h:J8 H e 0 v=some r):r.2= []:=by
 unfold J8 at h
 split at h
 ·split at h
  ·cases h;rfl
  ·cases h
 ·split at h
  ·cases h;rfl
  ·cases h
 ·split at h
  ·split at h
   ·cases h;rfl
   ·cases h
  ·split at h
   ·cases h;rfl
   ·cases h
  ·split at h
   ·simp only[Option.map_eq_some_iff] at h
    obtain ⟨ds,_,rfl⟩:=h
    simp[lX]
   ·cases h
  ·cases h
 ·split at h
  ·split at h
   ·cases h;rfl
   ·cases h
  ·cases h
 ·split at h
  ·cases h;rfl
  ·cases h
 ·split at h
  ·cases h;rfl
  ·cases h
 ·cases h
def HK (E:E6) (s:St) (t:TypeId) (e b:Nat) (x y:Value):Option (Value × St):=
 match Z3 E s t e b x y with
 |some (v,bs)=>some (v,s.push bs)
 |none=>iI E s t e b x y
theorem kI {E:E6} {t:TypeId} {e b:Nat} {x y:Value} (h:Z3 E s t e b x y=none):HK E s t e b x y=iI E s t e b x y:=by simp only[HK,h]
theorem bA2 (h:SR C st s μ F) {t:TypeId} {e b:Nat} {x y:V} {xI yI:Value} (hx:b9 (t8 C st s μ F) x xI) (hy:b9 (t8 C st s μ F) y yI) (hs:uG st t e b x y=some (v,st')):
  SW C st s μ F (HK C.E s t e b xI yI) v st':=by
 simp only[uG,Option.bind_eq_some_iff] at hs
 obtain ⟨m,hm,hs⟩:=hs
 obtain ⟨new,hnew,hs⟩:=hs
 split at hs
 case isFalse=>cases hs
 rename_i hok
 simp only[Bool.and_eq_true,Bool.not_eq_true',SS] at hok
 obtain ⟨⟨hok,he0⟩,hrow⟩:=hok
 have hlen:=oZ hy hm
 have hml:∀ k,Q9 y=some k→m≤k:=fun k hk=>by rw[hm] at hk;cases hk;exact Nat.le_refl _
 obtain ⟨cs,c1,c0,hone,c2⟩:=V5 h.hr hy hnew hml
 have hnl:=QS hnew hml
 have hnn:m ≠ 0→new.1 ≠ []:=fun hm0 e0=>by
  rw[e0] at hnl
  have:=Nat.mul_pos (Nat.pos_of_ne_zero hm0) (Nat.pos_of_ne_zero he0)
  simp at hnl;omega
 split at hs
 ·rename_i s' o n
  split at hs
  case h_2=>cases hs
  rename_i t' e' z l ho
  split at hs
  case isFalse=>cases hs
  rename_i hc
  simp only[Bool.and_eq_true,Bool.or_eq_true,Bool.not_eq_true',SS,Nat.ble_eq] at hc
  obtain ⟨⟨⟨⟨⟨⟨⟨⟨hro,hz⟩,hsn⟩,ht⟩,he⟩,hl⟩,hr1⟩,hr2⟩,hof⟩:=hc
  have ht:=f8.1 ht
  have he:=f8.1 he
  have hl:=f8.1 hl
  subst ht he hz
  have hsn:s'=2∨n ≠ 0:=hsn.imp f8.1 id
  cases hs
  have hokl:W5 (l++new.1)=true:=by
   have:=(h.own o _ ho).2
   simp only[Obj.ok] at this
   simp only[W5,List.all_append,Bool.and_eq_true];exact ⟨this,hok⟩
  by_cases hm0:m=0
  ·subst hm0
   have hn0:new.1= []:=List.eq_nil_of_length_eq_zero (by rw[hnl];simp)
   have hcs0:cs= []:=List.eq_nil_of_length_eq_zero (by rw[c0,hn0];rfl)
   have hf0:new.2= []:=aH6 hnew
   rw[hn0,List.append_nil,Nat.add_zero,hf0,A1]
   obtain ⟨q1,q2⟩:=h.rename ho hro
   have hx2:b9 (t8 C ⟨(st.next,.gro t' e' false l)::I2 o st.own,st.next+1,st.ro⟩ s (fun i=>if i=st.next then μ o else if i=o then none else μ i) F) (.gr 2 st.next n) xI:=by
    simp only[b9] at hx ⊢
    refine ⟨Nat.lt_succ_self _,?_⟩
    rcases hx with ⟨_,⟨hn,rfl|⟨hs2,_⟩⟩|⟨hn,b',rfl,q⟩⟩
    ·exact .inl ⟨hn,.inl rfl⟩
    ·exact absurd hs2 (by rcases hsn with h|h;exact fun h2=>h2 h;exact absurd hn h)
    ·exact .inr ⟨hn,b',rfl,fun b hb=>q b (by simpa using hb)⟩
   have hap:HK C.E s t' e' b xI yI=some (xI,s):=by
    have hc:∃ a c,xI= .slice a n c∧n≤v8 c:=by
     simp only[b9] at hx
     rcases hx with ⟨_,⟨rfl,rfl|⟨_,a,c,rfl,_⟩⟩|⟨hn,b',rfl,_⟩⟩
     ·exact ⟨_,_,rfl,Nat.zero_le _⟩
     ·exact ⟨_,_,rfl,Nat.zero_le _⟩
     ·exact ⟨_,_,rfl,by rw[I8 (by omega)];omega⟩
    obtain ⟨a,c,rfl,hc⟩:=hc
    simp only[HK,Z3,hlen,Option.bind_some]
    rw[if_pos (show Nat.beq 0 0=true from rfl),if_pos (by rw[Nat.ble_eq];exact hc)]
    rfl
   rw[hap]
   exact ⟨xI,s,_,F,rfl,q1,hx2,q2,rfl,Nat.le_refl _,fun b hb=> .inl hb⟩
  have h0:¬ Nat.beq m 0=true:=by rw[f8];exact hm0
  simp only[b9] at hx
  rcases hx with ⟨_,⟨hn,hx⟩|⟨hn0,b',rfl,q⟩⟩
  ·have hxn:xI= .slice none 0 0:=by
    rcases hx with hx|⟨hs2,_⟩
    ·exact hx
    ·exact absurd hs2 (by rcases hsn with h|h;exact fun h2=>h2 h;exact absurd hn h)
   subst hxn hn
   have hl0:l= []:=List.eq_nil_of_length_eq_zero (by rw[hl];simp)
   subst hl0
   have d1:=h.drop0 ho rfl
   have hP:iE s.heap (t8 C ⟨I2 o st.own,st.next,st.ro⟩ s μ F) s.next (.gr 2 st.next m) (some (.gro t' e' false new.1)) new.2 (.slice (some ⟨s.next,0,some 0⟩) m (v7+m)) [⟨cs,e',true,t'⟩]:=
    ⟨N6 (hnn hm0),rfl,hok,_,rfl,fun w' k1 k2 k3 k4 k5=>⟨.gr_new k4 k5 m hm0,rfl,rfl,rfl,c2 w' k1 k2 k3⟩⟩
   obtain ⟨p1,p2,p3,p4⟩:=d1.push hP (rW hrow hof)
   have hap:HK C.E s t' e' b (.slice none 0 0) yI=some (.slice (some ⟨s.next,0,some 0⟩) m (v7+m),s.push [⟨cs,e',true,t'⟩]):=by
    have:Z3 C.E s t' e' b (.slice none 0 0) yI=some (.slice (some ⟨s.next,0,some 0⟩) m (v7+m),[⟨cs,e',true,t'⟩]):=by
     simp only[Z3,hlen,Option.bind_some,Nat.zero_add]
     rw[Nat.zero_add] at hr1 hr2
     rw[if_neg h0,if_pos (by simp only[Bool.and_eq_true,Nat.ble_eq,Nat.blt_eq];exact ⟨⟨⟨hr1,hr2⟩,by unfold v7;omega⟩,by omega⟩),c1]
     simp only[Option.bind_some,n8]
     rfl
    simp only[HK,this]
   rw[hap,List.nil_append,Nat.zero_add]
   exact ⟨_,_,_,_,rfl,p1,p2,p3,rfl,by simp[St.push],p4⟩
  have hln:l ≠ []:=fun e0=>by
   rw[e0] at hl
   have:=Nat.mul_pos (Nat.pos_of_ne_zero hn0) (Nat.pos_of_ne_zero he0)
   simp at hl;omega
  obtain ⟨b0,blk,m1,m2,m3⟩:=h.obj o _ ho (N6 hln)
  have:=q b0 m1
  subst this
  have hcl:=m3.2.2.2.length
  obtain ⟨g1,g2⟩:=h.grow (t:=t') (e:=e') (m:=n+m) (l:=l++new.1) (fz:=new.2) (cs:=blk.cells++cs) ho rfl hro m1 m2 (by simp[hln]) hokl (by omega) hrow hof (fun w' k1 k2 k3=>(m3.2.2.2.mono k1).append (c2 w' k1 k2 k3))
  have hnb:Nat.blt (v7+n) v7=false:=by rw[← Bool.not_eq_true,Nat.blt_eq];omega
  rw[kI (by
   simp only[Z3,hlen,Option.bind_some]
   rw[if_neg h0,if_neg (by simp[hnb])])]
  ·have:iI C.E s t' e' b (.slice (some ⟨b',0,some 0⟩) n (v7+n)) yI=some (.slice (some ⟨s.next,0,some 0⟩) (n+m) (v7+(n+m)),St.push {s with heap:=G6 s.heap b'} [⟨blk.cells++cs,e',true,t'⟩]):=by
    simp only[iI,hlen,Option.bind_some]
    rw[if_neg h0,if_pos (by simp only[Bool.and_eq_true,Nat.ble_eq];exact ⟨hr1,hr2⟩),c1]
    simp only[Option.bind_some]
    rw[if_pos hone,if_neg (by rw[hnb];simp),if_pos (by rw[Nat.ble_eq];exact g2),m2]
    simp only[Option.bind_some]
    rw[if_pos (by simp only[Bool.and_eq_true];rw[m3.1,m3.2.1,m3.2.2.1,hcl,hl];refine ⟨⟨⟨⟨rfl,f8.2 rfl⟩,f8.2 rfl⟩,f8.2 (by omega)⟩,f8.2 rfl⟩)]
    rfl
   rw[this];exact g1
 ·rename_i o k n c
  split at hs
  case h_2=>cases hs
  rename_i t' e' g z l ho
  split at hs
  ·cases hs
  rename_i hcond
  simp only[Bool.or_eq_true,not_or,Bool.not_eq_true,LH] at hcond
  obtain ⟨⟨⟨⟨hro,hz⟩,h0'⟩,hr1⟩,hr2⟩:=hcond
  subst hz
  have hm0:m ≠ 0:=SS.1 h0'
  have h0:¬ Nat.beq m 0=true:=by rw[f8];exact hm0
  replace hnn:=hnn hm0
  simp only[b9] at hx
  obtain ⟨_,hcap,b',rfl,q⟩:=hx
  obtain ⟨b0,blk,m1,m2,m3⟩:=h.obj o _ ho rfl
  have:=q b0 m1
  subst this
  have hcl:=m3.2.2.2.length
  split at hs
  ·rename_i hcb
   split at hs
   case isFalse=>cases hs
   rename_i hle
   simp only[Bool.and_eq_true,Bool.not_eq_true'] at hle
   obtain ⟨hle,hof⟩:=hle
   simp only[Option.map_eq_some_iff] at hs
   obtain ⟨l',hl',hs⟩:=hs
   cases hs
   obtain ⟨rs,r1⟩:=dW hl' hcl c0
   have r2:∀ w',VW.le (t8 C st s μ F) w'→Fin (t8 C st s μ F) w' new.2→LdX s.heap (t8 C st s μ F) w' new.2→j6 w' l' rs:=fun w' k1 k2 k3=>by
    obtain ⟨rs',q1,q2⟩:=S0 hl' (m3.2.2.2.mono k1) (c2 w' k1 k2 k3)
    rw[r1] at q1;cases q1;exact q2
   obtain ⟨g1,g2,g3⟩:=h.upd (fz:=new.2) (ob':= .row t' e' g false l') (blk':={blk with cells:=rs}) ho rfl hro m1 m2 hrow (fun hm=>by have:=(j4 _ _).2 hm;rw[hof] at this;cases this) rfl rfl (L8 hl' (h.own o _ ho).2 hok) (fun w' k1 k2 k3=>⟨m3.1,m3.2.1,m3.2.2.1,r2 w' k1 k2 k3⟩)
   rw[Nat.ble_eq] at hle
   rw[kI (by
    simp only[Z3,hlen,Option.bind_some]
    rw[if_neg h0,if_neg (by
     have:Nat.blt c (n+m)=false:=by rw[← Bool.not_eq_true,Nat.blt_eq];omega
     simp[this])])]
   ·have:iI C.E s t e b (.slice (some ⟨b',k,some 0⟩) n c) yI=some (.slice (some ⟨b',k,some 0⟩) (n+m) c,{s with heap:=M5 s.heap b' {blk with cells:=rs}}):=by
     simp only[iI,hlen,Option.bind_some]
     rw[if_neg h0,if_pos (by simp only[Bool.and_eq_true,Nat.ble_eq];exact ⟨hr1,hr2⟩),c1]
     simp only[Option.bind_some]
     rw[if_pos hone,if_pos hcb,if_pos (by rw[Nat.ble_eq];exact hle)]
     have hast:=O8 (s:=s) m2 g3 hone r1
     simp only[y5]
     rw[hast]
     rfl
    rw[this]
    refine ⟨_,_,μ,_,rfl,g1,?_,g2,rfl,Nat.le_refl _,fun c hc=>h.fin_ge hrow hc⟩
    simp only[b9]
    rw[Nat.blt_eq] at hcb
    exact ⟨‹_›,by unfold F4;rw[E3 hcb];exact hle,b',rfl,q⟩
  ·rename_i hcb
   split at hs
   case isFalse=>
    split at hs
    case isFalse=>cases hs
    rename_i hle
    simp only[Bool.and_eq_true,Bool.not_eq_true'] at hle
    obtain ⟨⟨hle,hof⟩,hng⟩:=hle
    simp only[Option.map_eq_some_iff] at hs
    obtain ⟨l',hl',hs⟩:=hs
    cases hs
    obtain ⟨rs,r1⟩:=dW hl' hcl c0
    have r2:∀ w',VW.le (t8 C st s μ F) w'→Fin (t8 C st s μ F) w' new.2→LdX s.heap (t8 C st s μ F) w' new.2→j6 w' l' rs:=fun w' k1 k2 k3=>by
     obtain ⟨rs',q1,q2⟩:=S0 hl' (m3.2.2.2.mono k1) (c2 w' k1 k2 k3)
     rw[r1] at q1;cases q1;exact q2
    obtain ⟨g1,g2,g3⟩:=h.upd (fz:=new.2) (ob':= .row t' e' g false l') (blk':={blk with cells:=rs}) ho rfl hro m1 m2 hrow (fun hm=>by have:=(j4 _ _).2 hm;rw[hof] at this;cases this) rfl rfl (L8 hl' (h.own o _ ho).2 hok) (fun w' k1 k2 k3=>⟨m3.1,m3.2.1,m3.2.2.1,r2 w' k1 k2 k3⟩)
    rw[Nat.ble_eq] at hle
    have hcb':Nat.blt c v7=false:=by simp only[Bool.not_eq_true] at hcb;exact hcb
    rw[kI (by
     simp only[Z3,hlen,Option.bind_some]
     rw[if_neg h0,if_neg (by simp[hcb'])])]
    ·have:iI C.E s t e b (.slice (some ⟨b',k,some 0⟩) n c) yI=some (.slice (some ⟨b',k,some 0⟩) (n+m) c,{s with heap:=M5 s.heap b' {blk with cells:=rs}}):=by
      simp only[iI,hlen,Option.bind_some]
      rw[if_neg h0,if_pos (by simp only[Bool.and_eq_true,Nat.ble_eq];exact ⟨hr1,hr2⟩),c1]
      simp only[Option.bind_some]
      rw[if_pos hone,if_neg hcb,if_pos (by rw[Nat.ble_eq];exact g3),m2]
      simp only[Option.bind_some]
      rw[if_neg (by
       rw[m3.1,m3.2.1,m3.2.2.1,hcl,hng]
       exact Bool.false_ne_true),if_pos (by rw[Nat.ble_eq];exact hle)]
      have hast:=O8 (s:=s) m2 g3 hone r1
      simp only[y5]
      rw[hast]
      rfl
     rw[this]
     refine ⟨_,_,μ,_,rfl,g1,?_,g2,rfl,Nat.le_refl _,fun c hc=>h.fin_ge hrow hc⟩
     simp only[b9]
     rw[Nat.blt_eq] at hcb
     exact ⟨‹_›,by unfold F4;rw[I8 (by omega)];exact hle,b',rfl,q⟩
   rename_i hc
   simp only[Bool.and_eq_true,Bool.not_eq_true'] at hc
   obtain ⟨⟨⟨⟨⟨hg,ht⟩,he⟩,hk⟩,hc⟩,hof⟩:=hc
   have ht:=f8.1 ht
   have he:=f8.1 he
   have hk:=f8.1 hk
   have hc:=f8.1 hc
   subst ht he hg hc
   cases hs
   obtain ⟨g1,g2⟩:=h.grow (t:=t') (e:=e') (m:=n+m) (l:=l.drop k++new.1) (fz:=new.2) (cs:=blk.cells.drop k++cs) ho rfl hro m1 m2 (by simp[hnn]) (by
    have:=(h.own o _ ho).2
    simp only[Obj.ok,W5,List.all_eq_true] at this
    simp only[W5,List.all_append,Bool.and_eq_true,List.all_eq_true]
    exact ⟨fun d hd=>this d (List.mem_of_mem_drop hd),by simpa only[W5,List.all_eq_true] using hok⟩) (by omega) hrow hof (fun w' k1 k2 k3=>((m3.2.2.2.drop k).mono k1).append (c2 w' k1 k2 k3))
   rw[kI (by
    simp only[Z3,hlen,Option.bind_some]
    rw[if_neg h0,if_neg (by simp only[Bool.not_eq_true] at hcb;simp[hcb])])]
   ·have:iI C.E s t' e' b (.slice (some ⟨b',k,some 0⟩) n (v7+n)) yI=some (.slice (some ⟨s.next,0,some 0⟩) (n+m) (v7+(n+m)),St.push {s with heap:=G6 s.heap b'} [⟨blk.cells.drop k++cs,e',true,t'⟩]):=by
     simp only[iI,hlen,Option.bind_some]
     rw[if_neg h0,if_pos (by simp only[Bool.and_eq_true,Nat.ble_eq];exact ⟨hr1,hr2⟩),c1]
     simp only[Option.bind_some]
     rw[if_pos hone,if_neg hcb,if_pos (by rw[Nat.ble_eq];exact g2),m2]
     simp only[Option.bind_some]
     rw[if_pos (by simp only[Bool.and_eq_true];rw[m3.1,m3.2.1,m3.2.2.1,hcl];exact ⟨⟨⟨⟨rfl,f8.2 rfl⟩,f8.2 rfl⟩,f8.2 hk⟩,f8.2 rfl⟩)]
    rw[this];exact g1
 ·cases hs
theorem bA4 (h:SR C st s μ F) {e:Nat} {d x:V} {dI xI:Value} (hd:b9 (t8 C st s μ F) d dI) (hx:b9 (t8 C st s μ F) x xI) (hs:aA1 st e d x=some (v,st')):
  SW C st s μ F (WV C.E s e dI xI) v st':=by
 simp only[aA1,Option.bind_eq_some_iff] at hs
 obtain ⟨n,hn,m,hm,cs,hcs,hs⟩:=hs
 split at hs
 case isFalse=>cases hs
 rename_i hok
 have hml:∀ k,Q9 x=some k→Nat.min m n≤k:=fun k hk=>by rw[hm] at hk;cases hk;exact Nat.min_le_left _ _
 simp only[Bool.and_eq_true,List.isEmpty_iff] at hok
 obtain ⟨us,u1,u2⟩:=(V5 h.hr hx hcs hml).plain h.hr hok.2
 replace hok:=hok.1
 have hlx:=oZ hx hm
 have hone:=u2.one
 have hint:∀ w:VW,b9 w (.sc (.int .i64 ↑(Nat.min m n))) (.int .i64 ↑(Nat.min m n)):=fun w=> .mksc rfl
 split at hs
 ·rename_i o k n' c
  simp only[W1,Option.some.injEq] at hn
  subst hn
  split at hs
  case h_2=>cases hs
  rename_i t e' g z l ho
  split at hs
  ·cases hs
  rename_i hcond
  simp only[Bool.or_eq_true,not_or,Bool.not_eq_true,LH] at hcond
  obtain ⟨hro,hz⟩:=hcond
  subst hz
  simp only[Option.map_eq_some_iff] at hs
  obtain ⟨l',hl',hs⟩:=hs
  cases hs
  simp only[b9] at hd
  obtain ⟨_,hcap,b',rfl,q⟩:=hd
  obtain ⟨b0,blk,m1,m2,m3⟩:=h.obj o _ ho rfl
  have:=q b0 m1
  subst this
  obtain ⟨rs,r1,r2⟩:=S0 hl' m3.2.2.2 u2
  obtain ⟨g1,g2,g3⟩:=h.upd (fz:= []) (ob':= .row t e' g false l') (blk':={blk with cells:=rs}) ho rfl hro m1 m2 rfl (by simp) rfl rfl (L8 hl' (h.own o _ ho).2 hok) (fun w' k1 k2 k3=>⟨m3.1,m3.2.1,m3.2.2.1,r2.mono k1⟩)
  rw[A1] at g1 g2
  refine ⟨_,_,μ,_,?_,g1,hint _,g2,rfl,Nat.le_refl _,fun c hc=>h.fin_ge (fz:= []) rfl hc⟩
  simp only[WV,hlx,u1,Option.bind_some]
  rw[O8 m2 g3 hone r1]
  rfl
 ·rename_i s' o n'
  simp only[W1,Option.some.injEq] at hn
  subst hn
  split at hs
  case h_2=>cases hs
  rename_i t e' z l ho
  split at hs
  ·cases hs
  rename_i hcond
  simp only[Bool.or_eq_true,not_or,Bool.not_eq_true,SS,Bool.not_eq_false'] at hcond
  obtain ⟨⟨⟨⟨hro,hz⟩,hn0⟩,he0⟩,hll⟩:=hcond
  have hll:=f8.1 hll
  rw[Nat.ble_eq] at hro
  subst hz
  simp only[Option.map_eq_some_iff] at hs
  obtain ⟨l',hl',hs⟩:=hs
  cases hs
  simp only[b9] at hd
  rcases hd with ⟨_,⟨h00,_⟩|⟨_,b',rfl,q⟩⟩
  ·exact absurd h00 hn0
  have hl0:l ≠ []:=fun e0=>by
   rw[e0] at hll
   have:=Nat.mul_pos (Nat.pos_of_ne_zero hn0) (Nat.pos_of_ne_zero he0)
   simp at hll;omega
  obtain ⟨b0,blk,m1,m2,m3⟩:=h.obj o _ ho (N6 hl0)
  have:=q b0 m1
  subst this
  obtain ⟨rs,r1,r2⟩:=S0 hl' m3.2.2.2 u2
  have hl'0:l' ≠ []:=fun e0=>by have:=pR hl';rw[e0] at this;exact hl0 (List.eq_nil_of_length_eq_zero this.symm)
  obtain ⟨g1,g2,g3⟩:=h.upd (fz:= []) (ob':= .gro t e' false l') (blk':={blk with cells:=rs}) ho rfl hro m1 m2 rfl (by simp) (N6 hl'0) rfl (L8 hl' (h.own o _ ho).2 hok) (fun w' k1 k2 k3=>⟨m3.1,m3.2.1,m3.2.2.1,r2.mono k1⟩)
  rw[A1] at g1 g2
  refine ⟨_,_,μ,_,?_,g1,hint _,g2,rfl,Nat.le_refl _,fun c hc=>h.fin_ge (fz:= []) rfl hc⟩
  simp only[WV,hlx,u1,Option.bind_some]
  rw[O8 m2 g3 hone r1]
  rfl
 ·cases hs
  have hk:=hd.ok
  have:=hd.scv
  subst this
  simp only[C2,Bool.and_eq_true,f8] at hk
  obtain ⟨rfl,rfl⟩:=hk
  simp only[W1,Option.some.injEq] at hn
  subst hn
  refine ⟨_,s,μ,F,?_,h,hint _,VW.le.refl _,rfl,Nat.le_refl _,fun b hb=> .inl hb⟩
  simp only[WV,hlx,u1,Option.bind_some]
 ·cases hs
theorem SR.give (h:SR C st s μ F) {o b:Nat} {ob:Obj} (ho:f7 st.own o=some ob) (hz:ob.fz=false) (hro:st.ro≤o) (hμ:μ o=some b) (x:Value) (hx:C2 x=true):
  SW C st s μ F (some (x,{s with heap:=G6 s.heap b})) (.sc x) ⟨I2 o st.own,st.next,st.ro⟩∧s.prot≤b:=by
 obtain ⟨d1,d2,d3⟩:=h.del ho hz hro hμ
 exact ⟨⟨x,_,_,F,rfl,d1,.mksc hx,d2,rfl,Nat.le_refl _,fun b hb=> .inl hb⟩,d3⟩
theorem bC0 (h:SR C st s μ F) {t:TypeId} {p n:V} {pI nI:Value} (hp:b9 (t8 C st s μ F) p pI) (hn:b9 (t8 C st s μ F) n nI) (hs:BA st t p n=some (v,st')):
  SW C st s μ F (AQ s t pI nI) v st':=by
 unfold BA at hs
 split at hs
 ·rename_i k
  split at hs
  case isFalse=>cases hs
  rename_i hk
  cases hs
  have:=hp.scv
  subst this
  have:=hn.scv
  subst this
  exact ⟨_,s,μ,F,by simp[AQ,hk],h,.mksc rfl,VW.le.refl _,rfl,Nat.le_refl _,fun b hb=> .inl hb⟩
 ·rename_i o k m
  split at hs
  case isFalse=>cases hs
  rename_i hc
  obtain ⟨hm0,hm1,hro⟩:=hc
  rw[Nat.ble_eq] at hro
  have:=hn.scv
  subst this
  simp only[b9] at hp
  obtain ⟨_,b',rfl,q⟩:=hp
  have hne:¬ m=0:=by omega
  have fin:∀ {ob:Obj} {l:List D} {b:Nat} {blk:u5} {bs:List UInt8} {cs:List D},f7 st.own o=some ob→ob.fz=false→μ o=some b→d9 s.heap b=some blk→blk.ty=t→j6 (t8 C st s μ F) l blk.cells→B8 (l.drop k) m.toNat=some cs→A7 cs=some bs→
    v= .sc (.string ⟨bs.toArray⟩)→st'=⟨I2 o st.own,st.next,st.ro⟩→SW C st s μ F (AQ s t (.pointer (some ⟨b',k,some 0⟩)) (.int .i64 m)) v st':=by
   intro ob l b blk bs cs e1 e2 e3 e4 e5 e6 e7 e8 e9 e10
   have:=q b e3
   subst this e9 e10
   obtain ⟨g1,g2⟩:=h.give e1 e2 hro e3 (.string ⟨bs.toArray⟩) rfl
   obtain ⟨rfl,hlen⟩:=E9 _ _ e7
   rw[List.length_drop] at hlen
   have hcl:=e6.length
   have hb:=qT e8 (e6.part k m.toNat)
   have:AQ s t (.pointer (some ⟨b',k,some 0⟩)) (.int .i64 m)=some (.string ⟨bs.toArray⟩,{s with heap:=G6 s.heap b'}):=by
    simp only[AQ]
    rw[if_neg hne,if_pos ⟨hm0,hm1⟩,if_pos (by rw[Nat.ble_eq];exact g2),e4]
    simp only[Option.bind_some]
    rw[if_pos (by rw[e5];exact f8.2 rfl),V0 _ _ (by rw[List.length_drop];omega)]
    simp only[Option.bind_some,hb,Option.map_some]
   rw[this];exact g1
  split at hs
  ·rename_i t' e' z l ho
   split at hs
   case isFalse=>cases hs
   rename_i hc
   simp only[Bool.and_eq_true,Bool.not_eq_true'] at hc
   have ht:=f8.1 hc.1
   have hz:=hc.2
   subst ht hz
   simp only[Option.bind_eq_some_iff,Option.map_eq_some_iff] at hs
   obtain ⟨cs,h1,bs,h2,hs⟩:=hs
   cases hs
   have hl0:l ≠ []:=fun e0=>by
    obtain ⟨_,hlen⟩:=E9 _ _ h1
    rw[e0] at hlen;simp at hlen;omega
   obtain ⟨b0,blk,m1,m2,m3⟩:=h.obj o _ ho (N6 hl0)
   exact fin ho rfl m1 m2 m3.2.2.1 m3.2.2.2 h1 h2 rfl rfl
  ·rename_i t' e' g z l ho
   split at hs
   case isFalse=>cases hs
   rename_i hc
   simp only[Bool.and_eq_true,Bool.not_eq_true'] at hc
   have ht:=f8.1 hc.1
   have hz:=hc.2
   subst ht hz
   simp only[Option.bind_eq_some_iff,Option.map_eq_some_iff] at hs
   obtain ⟨cs,h1,bs,h2,hs⟩:=hs
   cases hs
   obtain ⟨b0,blk,m1,m2,m3⟩:=h.obj o _ ho rfl
   exact fin ho rfl m1 m2 m3.2.2.1 m3.2.2.2 h1 h2 rfl rfl
  ·cases hs
 ·cases hs
theorem CX {w:VW}:∀ {l:List D} {zs:List Int} {rs:List Value},OB l=some zs→j6 w l rs→tK rs=some zs
 | [],zs,rs,h,hr=>by
  simp only[j6] at hr
  subst hr
  simpa [OB,tK] using h
 |d::l,zs,rs,h,hr=>by
  unfold OB at h
  split at h
  ·rename_i heq;cases heq
  ·rename_i heq
   simp only[List.cons.injEq] at heq
   obtain ⟨rfl,rfl⟩:=heq
   simp only[Option.map_eq_some_iff] at h
   obtain ⟨zs',h1,rfl⟩:=h
   simp only[j6,u7] at hr
   obtain ⟨c,rs',rfl,⟨rfl,_⟩,h2⟩:=hr
   simp only[tK,CX h1 h2,Option.map_some]
  ·cases h
theorem DQ {w:VW}:∀ (zs:List Int),j6 w (zs.map fun x=>D.sc (.int .i64 x)) (zs.map (Value.int .i64))
 | []=>by simp only[List.map_nil,j6]
 |z::r=>by
  simp only[List.map_cons,j6,u7]
  exact ⟨_,_,rfl,⟨rfl,rfl⟩,DQ r⟩
theorem xQ {α:Type}:∀ (l:List α),B8 l l.length=some l
 | []=>rfl
 |x::l=>by simp only[List.length_cons,B8,xQ l,Option.map_some]
theorem bK7 (h:SR C st s μ F) {k0:Nat} {x:V} {xI:Value} (hx:b9 (t8 C st s μ F) x xI) (hs:bW5 st k0 x=some (v,st')):SW C st s μ F (IV k0 s xI) v st':=by
 unfold bW5 at hs
 split at hs
 ·rename_i s' o n'
  have hx0:=hx
  simp only[b9] at hx
  split at hs
  ·rename_i h0
   have h0:=f8.1 h0
   subst h0
   cases hs
   have:∃ a c,xI= .slice a 0 c:=by
    rcases hx.2 with ⟨_,rfl|⟨_,a,c,rfl,_⟩⟩|⟨h,_⟩
    ·exact ⟨_,_,rfl⟩
    ·exact ⟨_,_,rfl⟩
    ·exact absurd rfl h
   obtain ⟨a,c,rfl⟩:=this
   refine ⟨xL k0 a [] c,s,μ,F,rfl,h,?_,VW.le.refl _,rfl,Nat.le_refl _,fun b hb=> .inl hb⟩
   cases k0 with
   |zero=>show b9 _ (.tup []) (.tuple #[]);simp only[b9,d8];exact ⟨[],rfl,rfl⟩
   |succ k0=>exact hx0
  rename_i hn0
  have hn0:n' ≠ 0:=fun e=>hn0 (f8.2 e)
  split at hs
  case h_2=>cases hs
  rename_i t e z l ho
  split at hs
  case isFalse=>cases hs
  rename_i hc
  simp only[Bool.and_eq_true,Bool.not_eq_true'] at hc
  obtain ⟨⟨⟨hro,hz⟩,hll⟩,hrm⟩:=hc
  have hll:=f8.1 hll
  rw[Nat.ble_eq] at hro
  subst hz
  simp only[Option.map_eq_some_iff] at hs
  obtain ⟨zs,hzs,hs⟩:=hs
  cases hs
  rcases hx with ⟨_,⟨h00,_⟩|⟨_,b',rfl,q⟩⟩
  ·exact absurd h00 hn0
  have hl0:l ≠ []:=fun e0=>by rw[e0] at hll;simp at hll;omega
  obtain ⟨b0,blk,m1,m2,m3⟩:=h.obj o _ ho (N6 hl0)
  have:=q b0 m1
  subst this
  have hi:=CX hzs m3.2.2.2
  have hcl:=m3.2.2.2.length
  have hzl:zs.length=l.length:=by
   have:=congrArg List.length (nE hi)
   simp only[List.length_map] at this
   omega
  have hsl:=OK k0 zs
  have hl'0:((jC k0 zs).map fun x=>D.sc (.int .i64 x)) ≠ []:=fun e0=>by
   have:=congrArg List.length e0
   simp only[List.length_map,List.length_nil] at this
   omega
  obtain ⟨g1,g2,g3⟩:=h.upd (fz:= []) (ob':= .gro t e false ((jC k0 zs).map fun x=>D.sc (.int .i64 x))) (blk':={blk with cells:=(jC k0 zs).map (Value.int .i64)}) ho rfl hro m1 m2 rfl (by simp) (N6 hl'0) rfl (by
   simp only[Obj.ok,W5,List.all_eq_true]
   intro d hd
   obtain ⟨x,_,rfl⟩:=List.mem_map.1 hd
   rfl) (fun w' k1 k2 k3=>⟨m3.1,m3.2.1,m3.2.2.1,DQ _⟩)
  rw[A1] at g1 g2
  refine ⟨xL k0 (some ⟨b',0,some 0⟩) zs (v7+n'),_,μ,_,?_,g1,?_,g2,rfl,Nat.le_refl _,fun c hc=>h.fin_ge (fz:= []) rfl hc⟩
  rotate_left
  ·cases k0 with
   |zero=>show b9 _ (.tup []) (.tuple #[]);simp only[b9,d8];exact ⟨[],rfl,rfl⟩
   |succ k0=>
    have hcl:=WX zs
    simp only[bQ1,xL,b9]
    refine ⟨h.own o _ ho|>.1,?_,b',rfl,fun b hb=>q b hb⟩
    unfold F4
    rw[E2,if_neg (by omega)]
    omega
  simp only[IV,m2,Option.bind_some]
  rw[if_neg (fun e=>hn0 (f8.1 e)),List.drop_zero]
  have e1:B8 blk.cells n'=some blk.cells:=by
   have:=xQ blk.cells
   rwa [show blk.cells.length=n' by omega] at this
  rw[e1]
  simp only[Option.bind_some,hi]
  rw[if_pos (by rw[Bool.and_eq_true];exact ⟨hrm,by rw[Nat.ble_eq];exact Nat.le_refl _⟩)]
  have hone:((jC k0 zs).map (Value.int .i64)).all A8=true:=by
   rw[List.all_eq_true]
   intro d hd
   obtain ⟨x,_,rfl⟩:=List.mem_map.1 hd
   rfl
  have hput:Q1 blk.cells 0 ((jC k0 zs).map (Value.int .i64))=some ((jC k0 zs).map (Value.int .i64)):=by
   have:∀ (cs ls:List Value),ls.length=cs.length→Q1 ls 0 cs=some cs:=fun cs=>by
    induction cs with
    |nil=>intro ls hl;have:=List.eq_nil_of_length_eq_zero hl;subst this;rfl
    |cons c cs ih=>
     intro ls hl
     cases ls with
     |nil=>simp at hl
     |cons x ls=>simp only[Q1,ih ls (by simpa using hl),Option.map_some]
   exact this _ _ (by simp only[List.length_map];omega)
  rw[O8 m2 g3 hone hput]
  rfl
 ·split at hs
  case isFalse=>cases hs
  rename_i h0
  have h0:=f8.1 h0
  subst h0
  cases hs
  have:=hx.scv
  subst this
  refine ⟨xL k0 none [] _,s,μ,F,rfl,h,?_,VW.le.refl _,rfl,Nat.le_refl _,fun b hb=> .inl hb⟩
  cases k0 with
  |zero=>show b9 _ (.tup []) (.tuple #[]);simp only[b9,d8];exact ⟨[],rfl,rfl⟩
  |succ k0=>exact hx
 ·cases hs
theorem bA6 (h:SR C st s μ F) {x:V} {xI:Value} (hx:b9 (t8 C st s μ F) x xI) (hs:bA5 st x=some (v,st')):SW C st s μ F (OO s xI) v st':=by
 unfold bA5 at hs
 split at hs
 case h_2=>cases hs
 rename_i o k
 split at hs
 case isFalse=>cases hs
 rename_i hk
 have hk:=f8.1 hk
 subst hk
 split at hs
 case h_2=>cases hs
 rename_i t e g z l ho
 split at hs
 case isFalse=>cases hs
 rename_i hc
 simp only[Bool.and_eq_true,Bool.not_eq_true'] at hc
 obtain ⟨⟨⟨hro,hz⟩,he⟩,hg⟩:=hc
 have he:=f8.1 he
 rw[Nat.ble_eq] at hro
 subst hz he hg
 split at hs
 case isFalse=>cases hs
 rename_i hsz
 simp only[b9] at hx
 obtain ⟨_,b',rfl,q⟩:=hx
 obtain ⟨b0,blk,m1,m2,m3⟩:=h.obj o _ ho rfl
 have:=q b0 m1
 subst this
 obtain ⟨f1,f2,f3,_⟩:=m3
 split at hs
 ·rename_i hlt
  cases hs
  obtain ⟨g1,g2,g3⟩:=h.upd (fz:= []) (ob':= .row (rO (L7 t).1 ((L7 t).2+(Utf8.decode (L7 t).1 (L7 t).2).2)) 0 false false []) (blk':=mA (L7 t).1 ((L7 t).2+(Utf8.decode (L7 t).1 (L7 t).2).2)) ho rfl hro m1 m2 rfl (by simp) rfl rfl rfl (fun w' k1 k2 k3=>⟨rfl,rfl,rfl,by simp only[j6,mA]⟩)
  rw[A1] at g1 g2
  refine ⟨.tuple #[.bool true,.int .i64 (L7 t).2,.int .i32 (Utf8.decode (L7 t).1 (L7 t).2).1],_,μ,_,?_,g1,?_,g2,rfl,Nat.le_refl _,fun c hc=>h.fin_ge (fz:= []) rfl hc⟩
  ·simp only[OO]
   rw[if_pos (by rw[Nat.ble_eq];exact g3),m2]
   simp only[Option.bind_some,f1,f2,f3]
   rw[if_pos (by rfl),if_pos hsz,if_pos hlt]
  ·simp only[b9,d8]
   exact ⟨_,rfl,_,_,rfl,⟨rfl,rfl⟩,_,_,rfl,⟨rfl,rfl⟩,_,_,rfl,⟨rfl,rfl⟩,rfl⟩
 ·rename_i hlt
  cases hs
  obtain ⟨_,_,g3⟩:=h.upd (fz:= []) (ob':= .row t 0 false false []) (blk':={blk with cells:= []}) ho rfl hro m1 m2 rfl (by simp) rfl rfl rfl (fun w' k1 k2 k3=>⟨f1,f2,f3,by simp only[j6]⟩)
  refine ⟨.tuple #[.bool false],s,μ,F,?_,h,?_,VW.le.refl _,rfl,Nat.le_refl _,fun b hb=> .inl hb⟩
  ·simp only[OO]
   rw[if_pos (by rw[Nat.ble_eq];exact g3),m2]
   simp only[Option.bind_some,f1,f2,f3]
   rw[if_pos (by rfl),if_pos hsz,if_neg hlt]
  ·simp only[b9,d8]
   exact ⟨_,rfl,_,_,rfl,⟨rfl,rfl⟩,rfl⟩
theorem aJ7 (h:SR C st s μ F) (hf:FR (t8 C st s μ F) fr frI) {op:K8} (hs:Q5 fr st op=some (v,st')):SW C st s μ F (step C.E frI s op) v st':=by
 cases op with
 |store n a u=>
  simp only[Q5,Option.bind_eq_some_iff,Option.map_eq_some_iff] at hs
  obtain ⟨av,h1,uv,h2,st1,h3,hs⟩:=hs
  cases hs
  obtain ⟨aI,a1,a2⟩:=k7 hf h1
  obtain ⟨uI,b1,b2⟩:=k7 hf h2
  have:=aJ3 h a2 b2 h3
  rw[zX (r:=_) rfl rfl]
  simp only[o9,a1,b1,Option.bind_some]
  exact this
 |app t e b x y=>
  simp only[Q5,Option.bind_eq_some_iff] at hs
  obtain ⟨av,h1,uv,h2,hs⟩:=hs
  obtain ⟨aI,a1,a2⟩:=k7 hf h1
  obtain ⟨uI,b1,b2⟩:=k7 hf h2
  have k:=bA2 h a2 b2 hs
  have:step C.E frI s (.app t e b x y)=HK C.E s t e b aI uI:=by
   simp only[step,a8,o9,a1,b1,Option.bind_some,HK]
   cases Z3 C.E s t e b aI uI<;>rfl
  rw[this]
  exact k
 |copy e d x=>
  simp only[Q5,Option.bind_eq_some_iff] at hs
  obtain ⟨av,h1,uv,h2,hs⟩:=hs
  obtain ⟨aI,a1,a2⟩:=k7 hf h1
  obtain ⟨uI,b1,b2⟩:=k7 hf h2
  have:=bA4 h a2 b2 hs
  rw[zX (r:=_) rfl rfl]
  simp only[o9,a1,b1,Option.bind_some]
  exact this
 |ustr t p n=>
  simp only[Q5,Option.bind_eq_some_iff] at hs
  obtain ⟨av,h1,uv,h2,hs⟩:=hs
  obtain ⟨aI,a1,a2⟩:=k7 hf h1
  obtain ⟨uI,b1,b2⟩:=k7 hf h2
  have:=bC0 h a2 b2 hs
  rw[zX (r:=_) rfl rfl]
  simp only[o9,a1,b1,Option.bind_some]
  exact this
 |lib k x=>
  simp only[Q5,Option.bind_eq_some_iff] at hs
  obtain ⟨av,h1,hs⟩:=hs
  obtain ⟨aI,a1,a2⟩:=k7 hf h1
  have:=bK7 h a2 hs
  rw[zX (r:=_) rfl rfl]
  simp only[o9,a1,Option.bind_some]
  exact this
 |nextS x=>
  simp only[Q5,Option.bind_eq_some_iff] at hs
  obtain ⟨av,h1,hs⟩:=hs
  obtain ⟨aI,a1,a2⟩:=k7 hf h1
  have:=bA6 h a2 hs
  rw[zX (r:=_) rfl rfl]
  simp only[o9,a1,Option.bind_some]
  exact this
 |_=>simp[Q5] at hs
theorem bB9 (h:SR C st s μ F) (hf:FR (t8 C st s μ F) fr frI) {op:K8} (hs:SD C.E.old fr st op=some (v,st')):SW C st s μ F (step C.E frI s op) v st':=by
 unfold SD at hs
 split at hs
 ·rename_i v' ob fz hv
  split at hs
  case isFalse=>cases hs
  rename_i hrow
  cases hs
  obtain ⟨vI,bs,p1,p2⟩:=sI (n:=s.next) (p:=s.prot) h.hr hf hv
  obtain ⟨q1,q2,q3,q4⟩:=h.push p2 hrow
  refine ⟨vI,s.push bs,_,_,?_,q1,q2,q3,rfl,by simp[St.push],q4⟩
  have:step C.E frI s op=some (vI,s.push bs):=by simp only[step];rw[show a8 C.E frI s op=some (vI,bs) from p1]
  exact this
 ·exact aJ7 h hf hs
end
def Rl (C:D0) (st:l9) (fr:E0) (s:St) (frI:Fr):Prop:=
 ∃ μ F,SR C st s μ F∧FR (t8 C st s μ F) fr frI∧VW.le C.w0 (t8 C st s μ F)∧s.prot=C.p0∧∀ b,F b→C.w0.F b∨C.p0≤b
abbrev B5:=Ex→E0→l9→Prop
def DV (C:D0) (run:Fr→St→aC2) (fr:E0) (st:l9) (P:B5):Prop:=
 ∀ frI s,Rl C st fr s frI→∃ ex frI' s',run frI s=some (ex,frI',s')∧∃ fr' st',Rl C st' fr' s' frI'∧P ex fr' st'
def callI (E:E6) (f:FuncId) (xs:List Value) (s:St):Option (Value × St):=
 match E.pcall f xs s with
 |some (v,bs)=>some (v,s.push bs)
 |none=>E.wcall f xs s
def W3 (C:D0) (f:FuncId) (xs:List V) (st:l9) (Q:V→l9→Prop):Prop:=
 ∃ v st',Q v st'∧∀ s μ F xsI,SR C st s μ F→d8 (t8 C st s μ F) xs xsI→s.prot=C.p0→SW C st s μ F (callI C.E f xsI s) v st'
def aF:V→List V→Option (FuncId × List V)
 | .sc (.func (.func f) _ _),xs=>some (f,xs)
 | .fn f a b,xs=>some (f,a++xs++b)
 |_,_=>none
def fC (ms:List (TypeId × FuncId)):V→List V→Option (FuncId × List V)
 | .ifc t u,xs=>(Q3 ms t).map fun f=>(f,u::xs)
 | .sc (.iface t u),xs=>(Q3 ms t).map fun f=>(f,.sc u::xs)
 |_,_=>none
def bM7 (C:D0) (o:Nat) (xs:List V) (st:l9) (Q:V→l9→Prop):Prop:=
 ∀ s μ F xsI d,SR C st s μ F→d8 (t8 C st s μ F) xs xsI→VW.le C.w0 (t8 C st s μ F)→s.prot=C.p0→(∀ b,F b→C.w0.F b∨C.p0≤b)→b9 (t8 C st s μ F) (.tok o) (.chan (some d))→∃ v st',Q v st'∧SW C st s μ F (C.E.yld d xsI s) v st'
def HP (C:D0) (g:V) (vs:List V) (st:l9) (Q:V→l9→Prop):Prop:=
 match g with
 | .tok o=>bM7 C o vs st Q
 |_=>False
def nY (C:D0) (fr:E0) (st:l9) (op:K8) (Q:V→l9→Prop):Prop:=
 match op with
 | .callF f xs=>match W2 fr xs with|some vs=>W3 C f vs st Q|none=>False
 | .callV x xs=>match o8 fr x,W2 fr xs with
   |some g,some vs=>(match aF g vs with|some (f,ws)=>W3 C f ws st Q|none=>HP C g vs st Q)
   |_,_=>False
 | .callI ms x xs=>match o8 fr x,W2 fr xs with
   |some g,some vs=>(match fC ms g vs with|some (f,ws)=>W3 C f ws st Q|none=>False)
   |_,_=>False
 |op=>match SD C.E.old fr st op with|some (v,st')=>Q v st'|none=>False
def wpO (C:D0):List f9→E0→l9→(E0→l9→Prop)→Prop
 | [],fr,st,Q=>Q fr st
 |o::l,fr,st,Q=>match o.guard with
   |none=>nY C fr st o.op fun v st'=>wpO C l (u6 fr o.dst v) st' Q
   |some (t,want)=>match f7 fr t with
     |some (.sc (.bool b))=>if b==want then nY C fr st o.op fun v st'=>wpO C l (u6 fr o.dst v) st' Q else wpO C l (u6 fr o.dst (.tup [])) st Q
     |some (.tup _)=>wpO C l (u6 fr o.dst (.tup [])) st Q
     |_=>False
def O3:E7→List (Nat × Bool)→List Bool→E7
 |H,[],_=>H
 |H,_::r,true::ms=>O3 H r ms
 |H,(o,c)::r,false::ms=>if c then I2 o (O3 H r ms) else O3 H r ms
 |H,_::r,[]=>O3 H r []
def C1 (E:E6) (s:St) (w0:VW):D0:=⟨E,s.next,s.heap,(· <s.next),w0,s.next⟩
def H1 (E:E6) (f:FuncId) (st:l9) (xs:List V) (v:V):Prop:=
 ∀ (s:St) (μ:Nat→Option Nat) (F:Nat→Prop) (xsI:List Value) (w0:VW),SR (C1 E s w0) ⟨st.own,st.next,st.next⟩ ⟨s.heap,s.next,s.next⟩ μ F→d8 (t8 (C1 E s w0) st s μ F) xs xsI→
  ∃ vI,E.pcall f xsI s=some (vI,[])∧∀ w,b9 w v vI
def bQ6 (E:E6) (f:FuncId) (st:l9) (xs:List V) (v:V) (ob:Obj):Prop:=
 ob.none=false∧ob.fz=false∧ob.ok=true∧∀ (s:St) (μ:Nat→Option Nat) (F:Nat→Prop) (xsI:List Value) (w0:VW),SR (C1 E s w0) ⟨st.own,st.next,st.next⟩ ⟨s.heap,s.next,s.next⟩ μ F→d8 (t8 (C1 E s w0) st s μ F) xs xsI→
  ∃ vI blk,E.pcall f xsI s=some (vI,[blk])∧∀ w:VW,st.next<w.nx→w.μ st.next=some s.next→b9 w v vI∧qJ w ob blk
def BY (C:D0) (f:FuncId) (xs:List V) (H:E7) (nx:Nat) (Q:V→Prop) (R:V→Obj→Prop):Prop:=(∃ v,H1 C.E f ⟨H,nx,nx⟩ xs v∧Q v)∨(∃ v ob,bQ6 C.E f ⟨H,nx,nx⟩ xs v ob∧R v ob)
def KL (C:D0) (f:E0) (H:E7) (st:l9) (op:K8) (Q:V→Option Obj→Prop):Prop:=
 match op with
 | .callF g xs=>match W2 f xs with|some vs=>BY C g vs H st.next (fun v=>Q v none) (fun v ob=>Q v (some ob))|none=>False
 | .callV x xs=>match o8 f x,W2 f xs with
   |some g,some vs=>(match aF g vs with|some (g,ws)=>BY C g ws H st.next (fun v=>Q v none) (fun v ob=>Q v (some ob))|none=>False)
   |_,_=>False
 |op=>match f5 C.E.old f H st.next op with|some (v,ob,fz)=>if fz.isEmpty then Q v ob else False|none=>False
def wpP (C:D0):List f9→List (List Bool)→List (Nat × Bool)→E0→l9→(E0→l9→Prop)→Prop
 | [],_,_,fr,st,Q=>Q fr st
 |o::l,hid,vds,fr,st,Q=>match o.guard with
   |none=>KL C (D3 (q9 o) fr) (O3 st.own vds (hid.headD [])) st o.op fun v ob=>wpP C l hid.tail ((st.next,ob.isSome)::vds) (u6 fr o.dst v) (st.push ob []) Q
   |some (t,want)=>match f7 fr t with
     |some (.sc (.bool b))=>if b==want then KL C (D3 (q9 o) fr) (O3 st.own vds (hid.headD [])) st o.op fun v ob=>wpP C l hid.tail ((st.next,ob.isSome)::vds) (u6 fr o.dst v) (st.push ob []) Q
       else wpP C l hid.tail ((st.next,false)::vds) (u6 fr o.dst (.tup [])) st Q
     |some (.tup _)=>wpP C l hid.tail ((st.next,false)::vds) (u6 fr o.dst (.tup [])) st Q
     |_=>False
def KK (C:D0):AC→E0→l9→B5→Prop
 | .skip,fr,st,P=>P .normal fr st
 | .ops l ks,fr,st,P=>wpO C l fr st fun fr st=>P .normal (D3 ks fr) st
 | .draw pre tail hid ks,fr,st,P=>wpP C pre hid [] fr st fun fr st=>wpO C tail fr st fun fr st=>P .normal (D3 ks fr) st
 | .drawW pre tail ks,fr,st,P=>DV C (B0 C.E (.drawW pre tail ks)) fr st P
 | .seq a b,fr,st,P=>KK C a fr st fun ex fr st=>match ex with
   | .normal=>KK C b fr st P
   |ex=>P ex fr st
 | .cond c t e,fr,st,P=>match o8 fr c with
   |some (.sc (.bool b))=>if b then KK C t fr st P else KK C e fr st P
   |_=>False
 | .block id b,fr,st,P=>KK C b fr st fun ex fr st=>match ex with
   | .exit i=>if i=id then P .normal fr st else P (.exit i) fr st
   |ex=>P ex fr st
 | .loop ks b,fr,st,P=>DV C (B0 C.E (.loop ks b)) fr st P
 | .rangeF g ps ks a b,fr,st,P=>DV C (B0 C.E (.rangeF g ps ks a b)) fr st P
 | .exit id,fr,st,P=>P (.exit id) fr st
 | .ret,fr,st,P=>P .ret fr st
 | .bad,_,_,_=>False
section
variable {C:D0} {fr:E0} {st:l9} {P:B5}
theorem DV.mono {run:Fr→St→aC2} {Q:B5} (h:DV C run fr st P) (hq:∀ ex fr st,P ex fr st→Q ex fr st):DV C run fr st Q:=fun frI s hr=>by
 obtain ⟨ex,frI',s',e,fr',st',h1,h2⟩:=h frI s hr
 exact ⟨ex,frI',s',e,fr',st',h1,hq _ _ _ h2⟩
theorem Rl.stp {s:St} {frI:Fr} {μ:Nat→Option Nat} {F:Nat→Prop} (h1:SR C st s μ F) (h2:FR (t8 C st s μ F) fr frI) (h3:VW.le C.w0 (t8 C st s μ F)) (h4:s.prot=C.p0) (h5:∀ b,F b→C.w0.F b∨C.p0≤b) {r:Option (Value × St)} {v:V} {st':l9} (hs:SW C st s μ F r v st'):
  ∃ vI s',r=some (vI,s')∧∀ d,Rl C st' (u6 fr d v) s' (H5 frI d vI):=by
 obtain ⟨vI,s',μ',F',e,q1,q2,q3,q4,q5,q6⟩:=hs
 refine ⟨vI,s',e,fun d=>⟨μ',F',q1,(h2.mono q3).put q2 d,h3.trans q3,q4.trans h4,fun b hb=>?_⟩⟩
 rcases q6 b hb with hb|hb
 ·exact h5 b hb
 ·exact .inr (by rw[← h4];exact hb)
theorem CL {w:VW} {g:V} {vs ws:List V} {f:FuncId} {gI:Value} {vsI:List Value} (h:aF g vs=some (f,ws)) (hg:b9 w g gI) (hv:d8 w vs vsI):∃ wsI,Y3 gI vsI=some (f,wsI)∧d8 w ws wsI:=by
 cases g with
 |sc x=>
  have hx:=hg.ok
  have:=hg.scv
  subst this
  cases gI with
  |func fn a b=>
   cases fn with
   |func f'=>
    obtain ⟨a⟩:=a
    obtain ⟨b⟩:=b
    simp only[aF,Option.some.injEq,Prod.mk.injEq] at h
    obtain ⟨rfl,rfl⟩:=h
    simp only[C2,Bool.and_eq_true,List.isEmpty_iff] at hx
    obtain ⟨rfl,rfl⟩:=hx
    exact ⟨vsI,by simp[Y3],hv⟩
   |_=>simp[aF] at h
  |_=>simp[aF] at h
 |fn f' a b=>
  simp only[aF,Option.some.injEq,Prod.mk.injEq] at h
  obtain ⟨rfl,rfl⟩:=h
  simp only[b9] at hg
  obtain ⟨as,bs,rfl,ha,hb⟩:=hg
  refine ⟨as++vsI++bs,rfl,?_⟩
  have app:∀ {l m:List V} {ls ms:List Value},d8 w l ls→d8 w m ms→d8 w (l++m) (ls++ms):=by
   intro l
   induction l with
   |nil=>intro m ls ms h1 h2;simp only[d8] at h1;subst h1;exact h2
   |cons x l ih=>
    intro m ls ms h1 h2
    simp only[d8] at h1
    obtain ⟨v,vs',rfl,a1,a2⟩:=h1
    simp only[List.cons_append,d8]
    exact ⟨v,vs'++ms,rfl,a1,ih a2 h2⟩
  exact app (app ha hv) hb
 |_=>simp[aF] at h
theorem TM {w:VW} {ms:List (TypeId × FuncId)} {g:V} {vs ws:List V} {f:FuncId} {gI:Value} {vsI:List Value} (h:fC ms g vs=some (f,ws)) (hg:b9 w g gI) (hv:d8 w vs vsI):∃ wsI,fB ms gI vsI=some (f,wsI)∧d8 w ws wsI:=by
 unfold fC at h
 split at h
 ·simp only[Option.map_eq_some_iff,Prod.mk.injEq] at h
  obtain ⟨k,h1,rfl,rfl⟩:=h
  simp only[b9] at hg
  obtain ⟨v',rfl,hg⟩:=hg
  exact ⟨v'::vsI,by simp[fB,h1],by simp only[d8];exact ⟨_,_,rfl,hg,hv⟩⟩
 ·rename_i _ _ t u
  simp only[Option.map_eq_some_iff,Prod.mk.injEq] at h
  obtain ⟨k,h1,rfl,rfl⟩:=h
  have hx:=hg.ok
  have:=hg.scv
  subst this
  exact ⟨u::vsI,by simp[fB,h1],by simp only[d8];exact ⟨_,_,rfl,.mksc (by simpa only[C2] using hx),hv⟩⟩
 ·cases h
theorem GY {op:K8} {Q:V→l9→Prop} (h:nY C fr st op Q) {s:St} {frI:Fr} (hr:Rl C st fr s frI):∃ vI s' v st',step C.E frI s op=some (vI,s')∧Q v st'∧∀ d,Rl C st' (u6 fr d v) s' (H5 frI d vI):=by
 obtain ⟨μ,F,h1,h2,h3,h4,h5⟩:=hr
 have call:∀ {f:FuncId} {ws:List V} {wsI:List Value},W3 C f ws st Q→d8 (t8 C st s μ F) ws wsI→step C.E frI s op=callI C.E f wsI s→∃ vI s' v st',step C.E frI s op=some (vI,s')∧Q v st'∧∀ d,Rl C st' (u6 fr d v) s' (H5 frI d vI):=by
  intro f ws wsI hc hw he
  obtain ⟨v,st',hq,hs⟩:=hc
  obtain ⟨vI,s',e,hl⟩:=Rl.stp h1 h2 h3 h4 h5 (hs s μ F wsI h1 hw h4)
  exact ⟨vI,s',v,st',by rw[he];exact e,hq,hl⟩
 unfold nY at h
 split at h
 ·rename_i f xs
  split at h
  case h_2=>exact h.elim
  rename_i vs hvs
  obtain ⟨vsI,a1,a2⟩:=aZ h2 hvs
  exact call h a2 (by simp only[step,a8,o9,a1,Option.bind_some,callI];cases C.E.pcall f vsI s<;>rfl)
 ·rename_i x xs
  split at h
  case h_2=>exact h.elim
  rename_i g vs hg hvs
  obtain ⟨gI,b1,b2⟩:=k7 h2 hg
  obtain ⟨vsI,a1,a2⟩:=aZ h2 hvs
  split at h
  case h_2=>
   unfold HP at h
   split at h
   case h_2=>exact h.elim
   rename_i o
   have b2':=b2
   simp only[b9] at b2'
   obtain ⟨_,d,rfl,_⟩:=b2'
   obtain ⟨v,st',hq,hs⟩:=h s μ F vsI d h1 a2 h3 h4 h5 b2
   obtain ⟨vI,s',e,hl⟩:=Rl.stp h1 h2 h3 h4 h5 hs
   exact ⟨vI,s',v,st',by simp only[step,a8,o9,a1,b1,Option.bind_some,Y3,Option.bind_none,LS];exact e,hq,hl⟩
  rename_i f ws hcl
  obtain ⟨wsI,c1,c2⟩:=CL hcl b2 a2
  exact call h c2 (by simp only[step,a8,o9,a1,b1,c1,TH c1,Option.bind_some,callI];cases C.E.pcall f wsI s<;>rfl)
 ·rename_i ms x xs
  split at h
  case h_2=>exact h.elim
  rename_i g vs hg hvs
  split at h
  case h_2=>exact h.elim
  rename_i f ws hcl
  obtain ⟨gI,b1,b2⟩:=k7 h2 hg
  obtain ⟨vsI,a1,a2⟩:=aZ h2 hvs
  obtain ⟨wsI,c1,c2⟩:=TM hcl b2 a2
  exact call h c2 (by simp only[step,a8,o9,a1,b1,c1,Option.bind_some,callI];cases C.E.pcall f wsI s<;>rfl)
 ·split at h
  case h_2=>exact h.elim
  rename_i v st' hv
  obtain ⟨vI,s',e,hl⟩:=Rl.stp h1 h2 h3 h4 h5 (bB9 h1 h2 hv)
  exact ⟨vI,s',v,st',e,h,hl⟩
theorem Rl.put_tup {s:St} {frI:Fr} (hr:Rl C st fr s frI) (d:Option Nat):Rl C st (u6 fr d (.tup [])) s (H5 frI d (.tuple #[])):=by
 obtain ⟨μ,F,h1,h2,h3⟩:=hr
 exact ⟨μ,F,h1,h2.put (by simp only[b9,d8];exact ⟨[],rfl,rfl⟩) d,h3⟩
theorem Rl.keep {s:St} {frI:Fr} (hr:Rl C st fr s frI) (ks:List Nat):Rl C st (D3 ks fr) s (r8 ks frI):=by
 obtain ⟨μ,F,h1,h2,h3⟩:=hr
 exact ⟨μ,F,h1,h2.keep ks,h3⟩
theorem dP {s:St} {frI:Fr} (hr:Rl C st fr s frI) {t:Nat} {v:V} (h:f7 fr t=some v):(∀ b,v= .sc (.bool b)→F3 frI t=some (.bool b))∧(∀ l,v= .tup l→∃ l',F3 frI t=some (.tuple l')):=by
 obtain ⟨μ,F,h1,h2,h3⟩:=hr
 obtain ⟨vI,a,b⟩:=h2 t v h
 refine ⟨fun c e=>?_,fun l e=>?_⟩
 ·subst e;rw[b.scv] at a;exact a
 ·subst e;simp only[b9] at b;obtain ⟨vs,rfl,_⟩:=b;exact ⟨_,a⟩
theorem nX:∀ (l:List f9) {fr:E0} {st:l9} {Q:E0→l9→Prop},wpO C l fr st Q→∀ {s:St} {frI:Fr},Rl C st fr s frI→∃ frI' s' fr' st',H7 C.E l frI s=some (frI',s')∧Rl C st' fr' s' frI'∧Q fr' st'
 | [],fr,st,Q,h,s,frI,hr=>⟨frI,s,fr,st,rfl,hr,h⟩
 |⟨d,g,op⟩::l,fr,st,Q,h,s,frI,hr=>by
  simp only[wpO] at h
  split at h
  ·rename_i hg
   obtain ⟨vI,s',v,st',e,hq,hl⟩:=GY h hr
   obtain ⟨frI',s2,fr',st2,e2,h1,h2⟩:=nX l hq (hl d)
   exact ⟨frI',s2,fr',st2,by simp[H7,wanted,e,e2],h1,h2⟩
  ·rename_i _ t want
   split at h
   ·rename_i b hb
    have hb':=(dP hr hb).1 b rfl
    split at h
    ·rename_i hbw
     obtain ⟨vI,s',v,st',e,hq,hl⟩:=GY h hr
     obtain ⟨frI',s2,fr',st2,e2,h1,h2⟩:=nX l hq (hl d)
     exact ⟨frI',s2,fr',st2,by simp[H7,wanted,hb',hbw,e,e2],h1,h2⟩
    ·rename_i hbw
     obtain ⟨frI',s2,fr',st2,e2,h1,h2⟩:=nX l h (hr.put_tup d)
     have:(b==want)=false:=by simpa using hbw
     exact ⟨frI',s2,fr',st2,by simp[H7,wanted,hb',this,e2],h1,h2⟩
   ·rename_i l' hb
    obtain ⟨l2,hb'⟩:=(dP hr hb).2 l' rfl
    obtain ⟨frI',s2,fr',st2,e2,h1,h2⟩:=nX l h (hr.put_tup d)
    exact ⟨frI',s2,fr',st2,by simp[H7,wanted,hb',e2],h1,h2⟩
   ·exact h.elim
def iA:List (Nat × List u5)→List Bool→Nat→Prop
 | [],_,_=>False
 |_::r,true::ms,b=>iA r ms b
 |(n,bs)::r,false::ms,b=>(n≤b∧b<n+bs.length)∨iA r ms b
 |_::r,[],b=>iA r [] b
theorem oV:∀ (ds:List (Nat × List u5)) (b:Nat),¬ iA ds [] b
 | [],_,h=>h
 |_::r,b,h=>oV r b (by simpa only[iA] using h)
theorem oW (h:j8):∀ (ds:List (Nat × List u5)) (ms:List Bool) (b:Nat),¬ iA ds ms b→d9 (i7 h ds ms) b=d9 (i7 h ds []) b
 | [],_,_,_=>rfl
 |(n,bs)::r,true::ms,b,hn=>by
  simp only[iA] at hn
  simp only[i7]
  rw[w8,w8,oW h r ms b hn]
 |(n,bs)::r,false::ms,b,hn=>by
  simp only[iA,not_or] at hn
  simp only[i7]
  rw[w8,if_neg hn.1,oW h r ms b hn.2]
 |(n,bs)::r,[],b,hn=>rfl
def Al (μ:Nat→Option Nat) (lo:Nat):List (Nat × List u5)→List (Nat × Bool)→Prop
 | [],[]=>True
 |(n,bs)::r,(o,c)::q=>lo≤n∧bs.length≤1∧(bs ≠ []→c=true∧μ o=some n)∧Al μ lo r q
 |_,_=>False
theorem V9 (H:E7):∀ (vds:List (Nat × Bool)) (ms:List Bool) (o:Nat) (ob:Obj),f7 (O3 H vds ms) o=some ob→f7 H o=some ob
 | [],_,_,_,h=>h
 |_::r,true::ms,o,ob,h=>V9 H r ms o ob (by simpa only[O3] using h)
 |(i,c)::r,false::ms,o,ob,h=>by
  simp only[O3] at h
  split at h
  ·rw[H0] at h
   split at h
   ·cases h
   ·exact V9 H r ms o ob h
  ·exact V9 H r ms o ob h
 |_::r,[],o,ob,h=>V9 H r [] o ob (by simpa only[O3] using h)
theorem HG {μ:Nat→Option Nat} (hinj:∀ o o' b,μ o=some b→μ o'=some b→o=o') (H:E7) {lo:Nat}:∀ (ds:List (Nat × List u5)) (vds:List (Nat × Bool)) (ms:List Bool) (o:Nat) (ob:Obj) (b:Nat),Al μ lo ds vds→f7 (O3 H vds ms) o=some ob→μ o=some b→¬ iA ds ms b
 | [],[],ms,o,ob,b,_,_,_=>fun h=>h
 |(n,bs)::r,(i,c)::q,true::ms,o,ob,b,ha,h,hm=>by
  simp only[Al] at ha
  simp only[O3] at h
  simp only[iA]
  exact HG hinj H r q ms o ob b ha.2.2.2 h hm
 |(n,bs)::r,(i,c)::q,false::ms,o,ob,b,ha,h,hm=>by
  simp only[Al] at ha
  simp only[O3] at h
  simp only[iA,not_or]
  refine ⟨fun hb=>?_,?_⟩
  ·have hne:bs ≠ []:=fun e=>by subst e;simp at hb;omega
   obtain ⟨hc,hi⟩:=ha.2.2.1 hne
   rw[if_pos hc,H0] at h
   have hbn:b=n:=by have:=ha.2.1;omega
   subst hbn
   have:=hinj o i b hm hi
   rw[if_pos this] at h
   cases h
  ·split at h
   ·rw[H0] at h
    split at h
    ·cases h
    ·exact HG hinj H r q ms o ob b ha.2.2.2 h hm
   ·exact HG hinj H r q ms o ob b ha.2.2.2 h hm
 |(n,bs)::r,(i,c)::q,[],o,ob,b,ha,h,hm=>oV _ _
 | [],_::_,ms,o,ob,b,ha,_,_=>by simp[Al] at ha
 |_::_,[],ms,o,ob,b,ha,_,_=>by simp[Al] at ha
theorem SX {μ:Nat→Option Nat} {lo:Nat}:∀ (ds:List (Nat × List u5)) (vds:List (Nat × Bool)) (ms:List Bool) (b:Nat),Al μ lo ds vds→b<lo→¬ iA ds ms b
 | [],[],ms,b,_,_=>fun h=>h
 |(n,bs)::r,(i,c)::q,true::ms,b,ha,h=>by
  simp only[Al] at ha
  simp only[iA]
  exact SX r q ms b ha.2.2.2 h
 |(n,bs)::r,(i,c)::q,false::ms,b,ha,h=>by
  simp only[Al] at ha
  simp only[iA,not_or]
  exact ⟨fun hb=>by omega,SX r q ms b ha.2.2.2 h⟩
 |(n,bs)::r,(i,c)::q,[],b,ha,h=>oV _ _
 | [],_::_,ms,b,ha,_=>by simp[Al] at ha
 |_::_,[],ms,b,ha,_=>by simp[Al] at ha
theorem aK6 {μ:Nat→Option Nat} {lo:Nat}:∀ (ds:List (Nat × List u5)) (vds:List (Nat × Bool)) (ms:List Bool) (b:Nat),Al μ lo ds vds→iA ds ms b→∃ o,μ o=some b
 | [],[],ms,b,_,h=>h.elim
 |(n,bs)::r,(i,c)::q,true::ms,b,ha,h=>by
  simp only[Al] at ha
  simp only[iA] at h
  exact aK6 r q ms b ha.2.2.2 h
 |(n,bs)::r,(i,c)::q,false::ms,b,ha,h=>by
  simp only[Al] at ha
  simp only[iA] at h
  rcases h with hb|h
  ·have hne:bs ≠ []:=fun e=>by subst e;simp at hb;omega
   have hbn:b=n:=by have:=ha.2.1;omega
   subst hbn
   exact ⟨i,(ha.2.2.1 hne).2⟩
  ·exact aK6 r q ms b ha.2.2.2 h
 |(n,bs)::r,(i,c)::q,[],b,ha,h=>(oV _ _ h).elim
 | [],_::_,ms,b,ha,_=>by simp[Al] at ha
 |_::_,[],ms,b,ha,_=>by simp[Al] at ha
theorem Al.mono {μ μ':Nat→Option Nat} {lo:Nat} (hm:∀ o b,μ o=some b→μ' o=some b):∀ (ds:List (Nat × List u5)) (vds:List (Nat × Bool)),Al μ lo ds vds→Al μ' lo ds vds
 | [],[],_=>trivial
 |(n,bs)::r,(i,c)::q,h=>by
  simp only[Al] at h ⊢
  exact ⟨h.1,h.2.1,fun hne=>⟨(h.2.2.1 hne).1,hm _ _ (h.2.2.1 hne).2⟩,Al.mono hm r q h.2.2.2⟩
 | [],_::_,h=>by simp[Al] at h
 |_::_,[],h=>by simp[Al] at h
theorem WF (s0:St) (F:Nat→Prop) (hF0:∀ b,F b→b<s0.next):∀ (l:List f9) (hid:List (List Bool)) {vds:List (Nat × Bool)} {ds:List (Nat × List u5)} {fr:E0} {st:l9} {Q:E0→l9→Prop} {μ:Nat→Option Nat} {frI:Fr} {n:Nat},wpP C l hid vds fr st Q→
  SR C st ⟨i7 s0.heap ds [],n,s0.prot⟩ μ F→FR (t8 C st ⟨i7 s0.heap ds [],n,s0.prot⟩ μ F) fr frI→VW.le C.w0 (t8 C st ⟨i7 s0.heap ds [],n,s0.prot⟩ μ F)→s0.prot=C.p0→(∀ b,F b→C.w0.F b∨C.p0≤b)→Al μ s0.next ds vds→s0.next≤n→
  ∃ frI' ds' n' fr' st',aJ C.E s0 l hid ds frI n=some (frI',ds',n')∧Rl C st' fr' ⟨i7 s0.heap ds' [],n',s0.prot⟩ frI'∧Q fr' st'
 | [],hid,vds,ds,fr,st,Q,μ,frI,n,h,h1,h2,h3,h4,h5,h6,h7=>⟨frI,ds,n,fr,st,rfl,⟨μ,F,h1,h2,h3,h4,h5⟩,h⟩
 |⟨d,g,op⟩::l,hid,vds,ds,fr,st,Q,μ,frI,n,h,h1,h2,h3,h4,h5,h6,h7=>by
  have hrl:Rl C st fr ⟨i7 s0.heap ds [],n,s0.prot⟩ frI:=⟨μ,F,h1,h2,h3,h4,h5⟩
  let m:=hid.headD []
  let hp:=i7 s0.heap ds m
  let wv:VW:=⟨m8 C.E hp,F,μ,st.next⟩
  have hFg:∀ b,F b→d9 hp b=d9 (i7 s0.heap ds []) b:=fun b hb=>oW _ _ _ _ (SX ds vds m b h6 (hF0 b hb))
  have hld:∀ a,(t8 C st ⟨i7 s0.heap ds [],n,s0.prot⟩ μ F).inF a→m8 C.E hp a=m8 C.E (i7 s0.heap ds []) a:=fun a i=>by
   obtain ⟨b,o,sp⟩:=a
   cases sp with
   |none=>rfl
   |some k=>simp only[m8];rw[hFg b i]
  have hle:VW.le (t8 C st ⟨i7 s0.heap ds [],n,s0.prot⟩ μ F) wv:=⟨hld,fun _ h=>h,Nat.le_refl _,fun _ _ _ h=>h⟩
  have hle2:VW.le wv (t8 C st ⟨i7 s0.heap ds [],n,s0.prot⟩ μ F):=⟨fun a i=>(hld a i).symm,fun _ h=>h,Nat.le_refl _,fun _ _ _ h=>h⟩
  have hHR:HR C.E (O3 st.own vds m) hp wv:=by
   refine ⟨rfl,fun o ob e hn=>?_,fun b hb=>?_⟩
   ·obtain ⟨b,blk,m1,m2,m3⟩:=h1.obj o ob (V9 _ _ _ _ _ e) hn
    exact ⟨b,blk,m1,by rw[oW _ _ _ _ (HG h1.inj st.own ds vds m o ob b h6 e m1)];exact m2,m3.mono hle⟩
   ·obtain ⟨blk,hb'⟩:=(h1.lt b hb).2
    exact ⟨blk,by rw[hFg b hb];exact hb'⟩
  have hreads:FR wv (D3 (q9 ⟨d,g,op⟩) fr) (r8 (q9 ⟨d,g,op⟩) frI):=(h2.mono hle).keep _
  have next:∀ {v:V} {ob:Option Obj} {vI:Value} {bs:List u5},iE hp wv n v ob [] vI bs→wpP C l hid.tail ((st.next,ob.isSome)::vds) (u6 fr d v) (st.push ob []) Q→a8 C.E (r8 (q9 ⟨d,g,op⟩) frI) ⟨hp,n,n⟩ op=some (vI,bs)→wanted (r8 (q9 ⟨d,g,op⟩) frI) g=some true→
    ∃ frI' ds' n' fr' st',aJ C.E s0 (⟨d,g,op⟩::l) hid ds frI n=some (frI',ds',n')∧Rl C st' fr' ⟨i7 s0.heap ds' [],n',s0.prot⟩ frI'∧Q fr' st':=by
   intro v ob vI bs hp1 hq he hw
   have hp2:iE (i7 s0.heap ds []) (t8 C st ⟨i7 s0.heap ds [],n,s0.prot⟩ μ F) n v ob [] vI bs:=by
    cases ob with
    |none=>exact ⟨hp1.1,hp1.2.1,hp1.2.2.mono hle2⟩
    |some o=>
     obtain ⟨a1,a2,a3,blk,a4,a5⟩:=hp1
     exact ⟨a1,a2,a3,blk,a4,fun w' k1 k2 k3 k4 k5=>a5 w' (hle2.trans k1) (fun o ho=>by cases ho) (fun o ho=>by cases ho) k4 k5⟩
   obtain ⟨q1,q2,q3,q4⟩:=h1.push hp2 rfl
   rw[U6] at q1 q2 q3
   have hbs:bs.length≤1∧(bs ≠ []→ob.isSome=true∧UL μ st ⟨i7 s0.heap ds [],n,s0.prot⟩ ob st.next=some n)∧(∀ o b,μ o=some b→UL μ st ⟨i7 s0.heap ds [],n,s0.prot⟩ ob o=some b):=by
    cases ob with
    |none=>rw[hp1.1];exact ⟨by simp,fun h=>absurd rfl h,fun _ _ h=>h⟩
    |some o=>
     obtain ⟨_,_,_,blk,a4,_⟩:=hp1
     rw[a4]
     refine ⟨by simp,fun _=>⟨rfl,by simp[UL]⟩,fun o' b e=>?_⟩
     have:=(h1.dom o' b e).2.1
     simp only[UL]
     rw[if_neg (by omega)]
     exact e
   have hal:Al (UL μ st ⟨i7 s0.heap ds [],n,s0.prot⟩ ob) s0.next ((n,bs)::ds) ((st.next,ob.isSome)::vds):=by
    simp only[Al]
    exact ⟨h7,hbs.1,hbs.2.1,Al.mono hbs.2.2 ds vds h6⟩
   obtain ⟨frI',ds',n',fr',st',e1,e2,e3⟩:=WF s0 F hF0 l hid.tail (ds:=(n,bs)::ds) (n:=n+bs.length) (frI:=H5 frI d vI) hq q1 ((h2.mono q3).put q2 d) (h3.trans q3) h4 h5 hal (by omega)
   refine ⟨frI',ds',n',fr',st',?_,e2,e3⟩
   simp only[aJ,hw,Option.bind_some]
   rw[show a8 C.E (r8 (q9 ⟨d,g,op⟩) frI) ⟨i7 s0.heap ds (hid.headD []),n,n⟩ op=some (vI,bs) from he]
   exact e1
  have skip:wpP C l hid.tail ((st.next,false)::vds) (u6 fr d (.tup [])) st Q→wanted (r8 (q9 ⟨d,g,op⟩) frI) g=some false→
    ∃ frI' ds' n' fr' st',aJ C.E s0 (⟨d,g,op⟩::l) hid ds frI n=some (frI',ds',n')∧Rl C st' fr' ⟨i7 s0.heap ds' [],n',s0.prot⟩ frI'∧Q fr' st':=by
   intro hq hw
   have hal:Al μ s0.next ((n,[])::ds) ((st.next,false)::vds):=by
    simp only[Al]
    exact ⟨h7,by simp,fun h=>absurd rfl h,h6⟩
   obtain ⟨frI',ds',n',fr',st',e1,e2,e3⟩:=WF s0 F hF0 l hid.tail (ds:=(n,[])::ds) (n:=n) (frI:=H5 frI d (.tuple #[])) hq h1 (h2.put (by simp only[b9,d8];exact ⟨[],rfl,rfl⟩) d) h3 h4 h5 hal h7
   refine ⟨frI',ds',n',fr',st',?_,e2,e3⟩
   simp only[aJ,hw,Option.bind_some]
   exact e1
  have run:∀ {Q':V→Option Obj→Prop},KL C (D3 (q9 ⟨d,g,op⟩) fr) (O3 st.own vds m) st op Q'→∃ v ob vI bs,iE hp wv n v ob [] vI bs∧Q' v ob∧a8 C.E (r8 (q9 ⟨d,g,op⟩) frI) ⟨hp,n,n⟩ op=some (vI,bs):=by
   intro Q' hq
   have hbnd:∀ b blk,d9 hp b=some blk→b<n:=fun b blk hb=>by
    by_cases hh:iA ds m b
    ·obtain ⟨o,e⟩:=aK6 ds vds m b h6 hh;exact (h1.dom o b e).1
    ·rw[oW _ _ _ _ hh] at hb;exact h1.hb b blk hb
   have call:∀ {f:FuncId} {ws:List V} {wsI:List Value},BY C f ws (O3 st.own vds m) st.next (fun v=>Q' v none) (fun v ob=>Q' v (some ob))→d8 wv ws wsI→a8 C.E (r8 (q9 ⟨d,g,op⟩) frI) ⟨hp,n,n⟩ op=C.E.pcall f wsI ⟨hp,n,n⟩→
     ∃ v ob vI bs,iE hp wv n v ob [] vI bs∧Q' v ob∧a8 C.E (r8 (q9 ⟨d,g,op⟩) frI) ⟨hp,n,n⟩ op=some (vI,bs):=by
    intro f ws wsI hc hw he
    let μm:Nat→Option Nat:=fun o=>if (f7 (O3 st.own vds m) o).isSome then μ o else none
    have hμm:∀ o b,μm o=some b→μ o=some b∧∃ ob,f7 (O3 st.own vds m) o=some ob:=fun o b e=>by
     simp only[μm] at e
     split at e
     ·rename_i hs;exact ⟨e,Option.isSome_iff_exists.1 hs⟩
     ·cases e
    have hle3:VW.le wv ⟨m8 C.E hp,F,μm,st.next⟩:=⟨fun _ _=>rfl,fun _ h=>h,Nat.le_refl _,fun o b _ e=>(hμm o b e).1⟩
    have hsr:SR (C1 C.E ⟨hp,n,n⟩ wv) ⟨O3 st.own vds m,st.next,st.next⟩ ⟨hp,n,n⟩ μm F:=by
     refine ⟨?_,?_,?_,?_,?_,?_,?_,?_,Nat.le_refl _,?_,hbnd,Nat.le_refl _,?_⟩
     ·intro o ob e hn
      obtain ⟨b,blk,m1,m2,m3⟩:=hHR.obj o ob e hn
      exact ⟨b,blk,by simp only[μm,e,Option.isSome_some,if_true];exact m1,m2,m3.mono hle3⟩
     ·intro o ob b e e2 hz
      have e3:=V9 _ _ _ _ _ e
      refine ⟨(h1.wr o ob b e3 (hμm o b e2).1 hz).1,fun hro=>?_⟩
      have:=(h1.own o ob e3).1
      simp only at hro;omega
     ·intro o ob b e e2 hz
      exact h1.fz o ob b (V9 _ _ _ _ _ e) (hμm o b e2).1 hz
     ·intro o o' b e e'
      exact h1.inj o o' b (hμm o b e).1 (hμm o' b e').1
     ·intro o b e
      obtain ⟨e1,ob,e2⟩:=hμm o b e
      obtain ⟨d1,d2,ob',d3,d4⟩:=h1.dom o b e1
      have:=V9 _ _ _ _ _ e2
      rw[d3] at this
      cases this
      exact ⟨d1,d2,_,e2,d4⟩
     ·intro b hb
      exact ⟨(h1.lt b hb).1,hHR.ex b hb⟩
     ·intro b hb
      obtain ⟨blk,c1,c2⟩:=h1.cl b hb
      exact ⟨blk,by rw[show (⟨hp,n,n⟩:St).heap=hp from rfl,hFg b hb];exact c1,c2⟩
     ·intro b hb
      exact ⟨hb,rfl⟩
     ·intro o ob e
      exact h1.own o ob (V9 _ _ _ _ _ e)
     ·intro o b e hro
      have:=(h1.dom o b (hμm o b e).1).2.1
      simp only at hro;omega
    rcases hc with ⟨v,hc,hv⟩|⟨v,ob,⟨o1,o2,o3,hc⟩,hv⟩
    ·obtain ⟨vI,e1,e2⟩:=hc ⟨hp,n,n⟩ μm F wsI wv hsr (d8.mono hle3 hw)
     exact ⟨v,none,vI,[],.pure (e2 wv),hv,by rw[he];exact e1⟩
    ·obtain ⟨vI,blk,e1,e2⟩:=hc ⟨hp,n,n⟩ μm F wsI wv hsr (d8.mono hle3 hw)
     exact ⟨v,some ob,vI,[blk],⟨o1,o2,o3,blk,rfl,fun w' _ _ _ k4 k5=>e2 w' k4 k5⟩,hv,by rw[he];exact e1⟩
   unfold KL at hq
   split at hq
   ·split at hq
    case h_2=>exact hq.elim
    rename_i vs hvs
    obtain ⟨vsI,a1,a2⟩:=aZ hreads hvs
    exact call hq a2 (by simp only[a8,a1,Option.bind_some])
   ·split at hq
    case h_2=>exact hq.elim
    rename_i g' vs hg hvs
    split at hq
    case h_2=>exact hq.elim
    rename_i f ws hcl
    obtain ⟨gI,b1,b2⟩:=k7 hreads hg
    obtain ⟨vsI,a1,a2⟩:=aZ hreads hvs
    obtain ⟨wsI,c1,c2⟩:=CL hcl b2 a2
    exact call hq c2 (by simp only[a8,a1,b1,c1,Option.bind_some])
   ·split at hq
    case h_2=>exact hq.elim
    rename_i v ob fz hv
    split at hq
    case isFalse=>exact hq.elim
    rename_i hz
    rw[List.isEmpty_iff] at hz
    subst hz
    obtain ⟨vI,bs,e1,e2⟩:=sI (n:=n) (p:=n) hHR hreads hv
    exact ⟨v,ob,vI,bs,e2,hq,e1⟩
  simp only[wpP] at h
  split at h
  ·obtain ⟨v,ob,vI,bs,r1,r2,r3⟩:=run h
   exact next r1 r2 r3 rfl
  ·rename_i _ t want
   have ht:t ∈ q9 ⟨d,some (t,want),op⟩:=by simp[q9]
   split at h
   ·rename_i b hb
    have hb':=(dP hrl hb).1 b rfl
    split at h
    ·rename_i hbw
     obtain ⟨v,ob,vI,bs,r1,r2,r3⟩:=run h
     exact next r1 r2 r3 (by simp only[wanted];rw[I6 _ _ _ ht,hb'];simp[hbw])
    ·rename_i hbw
     have hbw':(b==want)=false:=by simpa using hbw
     exact skip h (by simp only[wanted];rw[I6 _ _ _ ht,hb'];simp[hbw'])
   ·rename_i l' hb
    obtain ⟨l2,hb'⟩:=(dP hrl hb).2 l' rfl
    exact skip h (by simp only[wanted];rw[I6 _ _ _ ht,hb'];rfl)
   ·exact h.elim
theorem nW:∀ (c:AC) {fr:E0} {st:l9} {P:B5},KK C c fr st P→DV C (B0 C.E c) fr st P
 | .skip,fr,st,P,h,frI,s,hr=>⟨.normal,frI,s,rfl,fr,st,hr,h⟩
 | .ops l ks,fr,st,P,h,frI,s,hr=>by
  obtain ⟨frI',s',fr',st',e,h1,h2⟩:=nX l h hr
  exact ⟨.normal,r8 ks frI',s',by simp[B0,e],D3 ks fr',st',h1.keep ks,h2⟩
 | .draw pre tail hid ks,fr,st,P,h,frI,s,hr=>by
  simp only[KK] at h
  obtain ⟨μ,F,h1,h2,h3,h4,h5⟩:=hr
  obtain ⟨frI',ds,n,fr',st',e,g1,g2⟩:=WF s F (fun b hb=>(h1.lt b hb).1) pre hid (ds:= []) (n:=s.next) (frI:=frI) h h1 h2 h3 h4 h5 trivial (Nat.le_refl _)
  obtain ⟨frI2,s2,fr2,st2,e2,k1,k2⟩:=nX tail g2 g1
  refine ⟨.normal,r8 ks frI2,s2,?_,D3 ks fr2,st2,k1.keep ks,k2⟩
  simp only[B0,e,Option.bind_some]
  rw[e2]
  rfl
 | .drawW pre tail ks,fr,st,P,h,frI,s,hr=>h frI s hr
 | .seq a b,fr,st,P,h,frI,s,hr=>by
  obtain ⟨ex,frI',s',e,fr',st',h1,h2⟩:=nW a h frI s hr
  cases ex with
  |normal=>
   obtain ⟨ex2,frI2,s2,e2,fr2,st2,k1,k2⟩:=nW b h2 frI' s' h1
   exact ⟨ex2,frI2,s2,by simp[B0,e,e2],fr2,st2,k1,k2⟩
  |exit i=>exact ⟨.exit i,frI',s',by simp[B0,e],fr',st',h1,h2⟩
  |ret=>exact ⟨.ret,frI',s',by simp[B0,e],fr',st',h1,h2⟩
 | .cond c t e,fr,st,P,h,frI,s,hr=>by
  simp only[KK] at h
  split at h
  case h_2=>exact h.elim
  rename_i b hb
  obtain ⟨μ,F,h1,h2,h3⟩:=hr
  obtain ⟨vI,a1,a2⟩:=k7 h2 hb
  rw[a2.scv] at a1
  split at h
  ·rename_i hbt
   subst hbt
   obtain ⟨ex,frI',s',e1,fr',st',k1,k2⟩:=nW t h frI s ⟨μ,F,h1,h2,h3⟩
   exact ⟨ex,frI',s',by simp[B0,a1,e1],fr',st',k1,k2⟩
  ·rename_i hbt
   simp only[Bool.not_eq_true] at hbt
   subst hbt
   obtain ⟨ex,frI',s',e1,fr',st',k1,k2⟩:=nW e h frI s ⟨μ,F,h1,h2,h3⟩
   exact ⟨ex,frI',s',by simp[B0,a1,e1],fr',st',k1,k2⟩
 | .block id b,fr,st,P,h,frI,s,hr=>by
  obtain ⟨ex,frI',s',e,fr',st',h1,h2⟩:=nW b h frI s hr
  cases ex with
  |normal=>exact ⟨.normal,frI',s',by simp[B0,e],fr',st',h1,h2⟩
  |ret=>exact ⟨.ret,frI',s',by simp[B0,e],fr',st',h1,h2⟩
  |exit i=>
   simp only at h2
   by_cases hi:i=id
   ·rw[if_pos hi] at h2
    exact ⟨.normal,frI',s',by simp only[B0,e,Option.map_some];rw[if_pos (f8.2 hi)],fr',st',h1,h2⟩
   ·rw[if_neg hi] at h2
    exact ⟨.exit i,frI',s',by simp only[B0,e,Option.map_some];rw[if_neg (by rw[f8];exact hi)],fr',st',h1,h2⟩
 | .loop ks b,fr,st,P,h,frI,s,hr=>h frI s hr
 | .rangeF g ps ks a b,fr,st,P,h,frI,s,hr=>h frI s hr
 | .exit id,fr,st,P,h,frI,s,hr=>⟨.exit id,frI,s,rfl,fr,st,hr,h⟩
 | .ret,fr,st,P,h,frI,s,hr=>⟨.ret,frI,s,rfl,fr,st,hr,h⟩
 | .bad,fr,st,P,h,frI,s,hr=>h.elim
def M9 (C:D0) (fr:E0) (st:l9) (fr':E0) (st':l9):Prop:=∀ s frI,Rl C st fr s frI→Rl C st' fr' s frI
theorem M9.refl (fr:E0) (st:l9):M9 C fr st fr st:=fun _ _ h=>h
def aK3 (C:D0) (I:Nat→E0→l9→Prop) (m:Nat) (P:B5):B5
 | .normal,fr,st=>∃ m' fr' st',m'<m∧M9 C fr st fr' st'∧I m' fr' st'
 |ex,fr,st=>P ex fr st
theorem bO8 {ks:List Nat} {b:AC} (I:Nat→E0→l9→Prop) (hround:∀ m fr st,I m fr st→KK C b (D3 ks fr) st (aK3 C I m P)):
  ∀ (N m:Nat) (fr:E0) (st:l9) (frI:Fr) (s:St),I m fr st→m<N→Rl C st fr s frI→∃ ex frI' s',iter (fun fr s=>B0 C.E b (r8 ks fr) s) N frI s=some (ex,frI',s')∧∃ fr' st',Rl C st' fr' s' frI'∧P ex fr' st'
 |0,m,fr,st,frI,s,hi,hm,hr=>absurd hm (Nat.not_lt_zero _)
 |N+1,m,fr,st,frI,s,hi,hm,hr=>by
  obtain ⟨ex,frI',s',e,fr',st',h1,h2⟩:=nW b (hround m fr st hi) (r8 ks frI) s (hr.keep ks)
  cases ex with
  |normal=>
   obtain ⟨m',fr2,st2,hlt,hw,hi'⟩:=h2
   obtain ⟨ex3,frI3,s3,e3,fr3,st3,k1,k2⟩:=bO8 I hround N m' fr2 st2 frI' s' hi' (by omega) (hw s' frI' h1)
   exact ⟨ex3,frI3,s3,by simp only[iter,e];exact e3,fr3,st3,k1,k2⟩
  |exit i=>exact ⟨.exit i,frI',s',by simp only[iter,e],fr',st',h1,h2⟩
  |ret=>exact ⟨.ret,frI',s',by simp only[iter,e],fr',st',h1,h2⟩
theorem aO0 {ks:List Nat} {b:AC} (I:Nat→E0→l9→Prop) (m:Nat) (fr':E0) (st':l9) (hw:M9 C fr st fr' st') (hi:I m fr' st') (hm:m<C.E.rounds) (hround:∀ m fr st,I m fr st→KK C b (D3 ks fr) st (aK3 C I m P)):
  DV C (B0 C.E (.loop ks b)) fr st P:=fun frI s hr=>by
 obtain ⟨ex,frI',s',e,h⟩:=bO8 I hround C.E.rounds m fr' st' frI s hi hm (hw s frI hr)
 exact ⟨ex,frI',s',e,h⟩
end
mutual
def aL:V→List Nat
 | .ref o _ _ _=> [o]
 | .gr _ o _=> [o]
 | .ptr o _=> [o]
 | .agg l=>jX l
 | .tup l=>jX l
 | .fn _ a b=>jX a++jX b
 | .ifc _ v=>aL v
 |_=> []
def jX:List V→List Nat
 | []=> []
 |v::r=>aL v++jX r
end
mutual
def Cl (H:E7):V→Prop
 | .sc _=>True
 | .sl s n l=>KO (.sl s n l)=true
 | .slk _ _ _ _=>True
 | .dp _ _=>True
 | .ref o _ _ _=>∃ ob,f7 H o=some ob∧ob.none=false
 | .gr s o n=>∃ t e z l,f7 H o=some (.gro t e z l)∧(n=0↔l= [])
 | .ptr o _=>∃ ob,f7 H o=some ob∧ob.none=false
 | .agg l=>KQ H l
 | .tup l=>KQ H l
 | .fn _ a b=>KQ H a∧KQ H b
 | .ifc _ v=>Cl H v
 | .dead=>False
 | .tok _=>False
def KQ (H:E7):List V→Prop
 | []=>True
 |v::r=>Cl H v∧KQ H r
end
inductive VR (H:E7) (v:V):Nat→Prop
 |root (o:Nat):o ∈ aL v→VR H v o
 |box (o o1:Nat) (t:TypeId) (e:Nat) (l:List V):VR H v o1→f7 H o1=some (.box t e l)→o ∈ jX l→VR H v o
structure bM (H:E7) (v:V):Prop where
 cl:Cl H v
 box:∀ o t e l,f7 H o=some (.box t e l)→KQ H l
 all:∀ o ob,f7 H o=some ob→ob.none=false→VR H v o
def Y9 (n0:Nat) (done:List Nat):j8→Nat
 | []=>0
 |(j,b)::r=>(if l7 j done then 0 else (y6 n0 b.cells).length)+Y9 n0 done r
theorem QA (n0:Nat):∀ h:j8,Y9 n0 [] h=uO n0 h
 | []=>rfl
 |(j,b)::r=>by simp[Y9,uO,l7,QA n0 r]
theorem QB (x i j:Nat) (done:List Nat):(if l7 j (i::done)=true then 0 else x)≤(if l7 j done=true then 0 else x):=by
 have h:l7 j done=true→l7 j (i::done)=true:=fun h=>(j4 _ _).2 (List.mem_cons_of_mem _ ((j4 _ _).1 h))
 by_cases h1:l7 j (i::done)=true
 ·rw[if_pos h1];exact Nat.zero_le _
 ·rw[if_neg h1,if_neg (fun h2=>h1 (h h2))];exact Nat.le_refl _
theorem EW (n0:Nat) (i:Nat) (done:List Nat):∀ h:j8,Y9 n0 (i::done) h≤Y9 n0 done h
 | []=>Nat.le_refl _
 |(j,b)::r=>by
  have ih:=EW n0 i done r
  simp only[Y9]
  have:=QB (y6 n0 b.cells).length i j done
  omega
theorem EV (n0:Nat) (i:Nat) (done:List Nat) (hi:¬ l7 i done=true):∀ (h:j8) (b:u5),d9 h i=some b→Y9 n0 (i::done) h+(y6 n0 b.cells).length≤Y9 n0 done h
 | [],b,h=>by cases h
 |(j,c)::r,b,h=>by
  rw[l5] at h
  simp only[Y9]
  split at h
  ·rename_i hij
   cases h
   subst hij
   have:=EW n0 i done r
   rw[if_pos ((j4 _ _).2 List.mem_cons_self),if_neg hi]
   omega
  ·rename_i hij
   have ih:=EV n0 i done hi r b h
   have:=QB (y6 n0 c.cells).length i j done
   omega
theorem jK {n0:Nat} {h:j8} {R:Nat→Prop} (hR:∀ b,R b→n0≤b→∃ blk,d9 h b=some blk∧∀ i ∈ y6 n0 blk.cells,R i):∀ (f:Nat) (todo done:List Nat),(∀ i ∈ todo,n0≤i∧R i)→todo.length+Y9 n0 done h≤f→∃ d,cW n0 h f todo done=some d
 |f,[],done,_,_=>⟨done,by cases f<;>rfl⟩
 |0,_::_,done,_,hf=>by simp at hf
 |f+1,i::todo,done,ht,hf=>by
  simp only[cW]
  rw[List.length_cons] at hf
  by_cases hi:l7 i done=true
  ·rw[if_pos hi]
   exact jK hR f todo done (fun j hj=>ht j (List.mem_cons_of_mem _ hj)) (by omega)
  ·rw[if_neg hi]
   obtain ⟨h1,h2⟩:=ht i List.mem_cons_self
   obtain ⟨blk,hb,hc⟩:=hR i h2 h1
   rw[hb]
   have:=EV n0 i done hi h blk hb
   refine jK hR f _ _ (fun j hj=>?_) (by rw[List.length_append];omega)
   rcases List.mem_append.1 hj with hj|hj
   ·exact ⟨fN _ j hj,hc j hj⟩
   ·exact ht j (List.mem_cons_of_mem _ hj)
theorem JI {n0:Nat} {h:j8} {R:Nat→Prop} (hR:∀ b,R b→n0≤b→∃ blk,d9 h b=some blk∧∀ i ∈ y6 n0 blk.cells,R i) (l:List Nat) (hl:∀ i ∈ l,n0≤i∧R i):∃ d,rS n0 h l=some d:=by
 unfold rS
 split
 ·exact ⟨_,rfl⟩
 ·exact jK hR _ l [] hl (by rw[QA];exact Nat.le_refl _)
theorem pN {n0:Nat} {h:j8} {ord:List Nat}:∀ (l:List Nat),(∀ i ∈ l,∃ b,d9 h i=some b)→∃ bs,cA n0 h ord l=some bs
 | [],_=>⟨[],rfl⟩
 |i::r,hl=>by
  obtain ⟨b,hb⟩:=hl i List.mem_cons_self
  obtain ⟨bs,hbs⟩:=pN (n0:=n0) (ord:=ord) r fun j hj=>hl j (List.mem_cons_of_mem _ hj)
  exact ⟨{b with cells:=V3 (z8 n0 ord) b.cells}::bs,by simp only[cA,hb,hbs,Option.bind_some,Option.map_some]⟩
mutual
theorem rK:∀ (v:Value),r9 0 v= []→∀ n,r9 n v= []
 | .pointer none,_,n=>rfl
 | .pointer (some ⟨b,o,none⟩),_,n=>rfl
 | .pointer (some ⟨b,o,some k⟩),h,n=>by simp[r9,m9] at h
 | .slice none _ _,_,n=>rfl
 | .slice (some ⟨b,o,none⟩) _ _,_,n=>rfl
 | .slice (some ⟨b,o,some k⟩) _ _,h,n=>by simp[r9,m9] at h
 | .func fn ⟨x⟩ ⟨y⟩,h,n=>by
  simp only[r9,List.append_eq_nil_iff] at h ⊢
  exact ⟨bW x h.1 n,bW y h.2 n⟩
 | .iface t v,h,n=>by simp only[r9] at h ⊢;exact rK v h n
 | .agg ⟨l⟩,h,n=>by simp only[r9] at h ⊢;exact bW l h n
 | .tuple ⟨l⟩,h,n=>by simp only[r9] at h ⊢;exact bW l h n
 | .bool _,_,n=>rfl
 | .int _ _,_,n=>rfl
 | .float _ _,_,n=>rfl
 | .complex _ _ _,h,n=>by simp[r9] at h
 | .string _,_,n=>rfl
 | .map _,_,n=>rfl
 | .chan none,_,n=>rfl
 | .chan (some d),h,n=>by simp[r9] at h
 | .nilFunc,_,n=>rfl
 | .nilIface,_,n=>rfl
theorem bW:∀ (l:List Value),y6 0 l= []→∀ n,y6 n l= []
 | [],_,n=>rfl
 |v::r,h,n=>by
  simp only[y6,List.append_eq_nil_iff] at h ⊢
  exact ⟨rK v h.1 n,bW r h.2 n⟩
end
mutual
theorem YE (f:Nat→Nat) (n:Nat):∀ (v:Value) (j:Nat),j ∈ r9 n (R5 f v)→(∃ i ∈ r9 0 v,j=f i)∨(j=n∧∀ m,m ∈ r9 m v)
 | .pointer none,j,h=>by simp[R5,H8,r9,m9] at h
 | .pointer (some ⟨b,o,none⟩),j,h=>by simp[R5,H8,r9,m9] at h
 | .pointer (some ⟨b,o,some k⟩),j,h=>by
  simp only[R5,H8,r9,m9] at h ⊢
  split at h
  ·simp at h;left;exact ⟨b,by simp,h⟩
  ·cases h
 | .slice none _ _,j,h=>by simp[R5,H8,r9,m9] at h
 | .slice (some ⟨b,o,none⟩) _ _,j,h=>by simp[R5,H8,r9,m9] at h
 | .slice (some ⟨b,o,some k⟩) _ _,j,h=>by
  simp only[R5,H8,r9,m9] at h ⊢
  split at h
  ·simp at h;left;exact ⟨b,by simp,h⟩
  ·cases h
 | .func fn ⟨x⟩ ⟨y⟩,j,h=>by
  simp only[R5,r9,List.mem_append] at h ⊢
  rcases h with h|h
  ·rcases dR f n x j h with ⟨i,hi,e⟩|⟨e,hm⟩
   ·exact .inl ⟨i,.inl hi,e⟩
   ·exact .inr ⟨e,fun m=> .inl (hm m)⟩
  ·rcases dR f n y j h with ⟨i,hi,e⟩|⟨e,hm⟩
   ·exact .inl ⟨i,.inr hi,e⟩
   ·exact .inr ⟨e,fun m=> .inr (hm m)⟩
 | .iface t v,j,h=>by simp only[R5,r9] at h ⊢;exact YE f n v j h
 | .agg ⟨l⟩,j,h=>by simp only[R5,r9] at h ⊢;exact dR f n l j h
 | .tuple ⟨l⟩,j,h=>by simp only[R5,r9] at h ⊢;exact dR f n l j h
 | .bool _,j,h=>by simp[R5,r9] at h
 | .int _ _,j,h=>by simp[R5,r9] at h
 | .float _ _,j,h=>by simp[R5,r9] at h
 | .complex _ _ _,j,h=>by
  simp only[R5,r9,List.mem_singleton] at h
  right
  exact ⟨h,fun m=>by simp[r9]⟩
 | .string _,j,h=>by simp[R5,r9] at h
 | .map _,j,h=>by simp[R5,r9] at h
 | .chan none,j,h=>by simp[R5,r9] at h
 | .chan (some d),j,h=>by
  simp only[R5,r9] at h ⊢
  split at h
  ·simp at h;left;exact ⟨d,by simp,h⟩
  ·cases h
 | .nilFunc,j,h=>by simp[R5,r9] at h
 | .nilIface,j,h=>by simp[R5,r9] at h
theorem dR (f:Nat→Nat) (n:Nat):∀ (l:List Value) (j:Nat),j ∈ y6 n (V3 f l)→(∃ i ∈ y6 0 l,j=f i)∨(j=n∧∀ m,m ∈ y6 m l)
 | [],j,h=>by simp[V3,y6] at h
 |v::r,j,h=>by
  simp only[V3,y6,List.mem_append] at h ⊢
  rcases h with h|h
  ·rcases YE f n v j h with ⟨i,hi,e⟩|⟨e,hm⟩
   ·exact .inl ⟨i,.inl hi,e⟩
   ·exact .inr ⟨e,fun m=> .inl (hm m)⟩
  ·rcases dR f n r j h with ⟨i,hi,e⟩|⟨e,hm⟩
   ·exact .inl ⟨i,.inr hi,e⟩
   ·exact .inr ⟨e,fun m=> .inr (hm m)⟩
end
theorem NV {n:Nat}:∀ (l:List Value) (k:Nat) (x:Value),l[k]? =some x→∀ i ∈ r9 n x,i ∈ y6 n l:=by
 intro l
 induction l with
 |nil=>intro k x h;simp at h
 |cons y l ih=>
  intro k x h i hi
  simp only[y6,List.mem_append]
  cases k with
  |zero=>simp at h;subst h;exact .inl hi
  |succ k=>simp at h;exact .inr (ih k x h i hi)
theorem aW7 {f:Nat→Nat}:∀ (l:List Value) (k:Nat),(V3 f l)[k]? =(l[k]?).map (R5 f):=by
 intro l
 induction l with
 |nil=>intro k;simp[V3]
 |cons x l ih=>intro k;cases k<;>simp[V3,ih]
mutual
theorem aR4 {n:Nat}:∀ (v:Value) (j:Nat),j ∈ r9 0 v→n≤j→j ∈ r9 n v
 | .pointer none,j,h,_=>by simp[r9,m9] at h
 | .pointer (some ⟨b,o,none⟩),j,h,_=>by simp[r9,m9] at h
 | .pointer (some ⟨b,o,some k⟩),j,h,hj=>by
  simp only[r9,m9] at h ⊢
  rw[if_pos (by simp)] at h
  simp at h;subst h
  rw[if_pos (by rw[Nat.ble_eq];exact hj)];simp
 | .slice none _ _,j,h,_=>by simp[r9,m9] at h
 | .slice (some ⟨b,o,none⟩) _ _,j,h,_=>by simp[r9,m9] at h
 | .slice (some ⟨b,o,some k⟩) _ _,j,h,hj=>by
  simp only[r9,m9] at h ⊢
  rw[if_pos (by simp)] at h
  simp at h;subst h
  rw[if_pos (by rw[Nat.ble_eq];exact hj)];simp
 | .func fn ⟨x⟩ ⟨y⟩,j,h,hj=>by
  simp only[r9,List.mem_append] at h ⊢
  exact h.imp (fun h=>kQ x j h hj) (fun h=>kQ y j h hj)
 | .iface t v,j,h,hj=>by simp only[r9] at h ⊢;exact aR4 v j h hj
 | .agg ⟨l⟩,j,h,hj=>by simp only[r9] at h ⊢;exact kQ l j h hj
 | .tuple ⟨l⟩,j,h,hj=>by simp only[r9] at h ⊢;exact kQ l j h hj
 | .bool _,j,h,_=>by simp[r9] at h
 | .int _ _,j,h,_=>by simp[r9] at h
 | .float _ _,j,h,_=>by simp[r9] at h
 | .complex _ _ _,j,h,hj=>by simp[r9] at h ⊢;omega
 | .string _,j,h,_=>by simp[r9] at h
 | .map _,j,h,_=>by simp[r9] at h
 | .chan none,j,h,_=>by simp[r9] at h
 | .chan (some d),j,h,hj=>by
  simp only[r9] at h ⊢
  rw[if_pos (by simp)] at h
  simp at h;subst h
  rw[if_pos (by rw[Nat.ble_eq];exact hj)];simp
 | .nilFunc,j,h,_=>by simp[r9] at h
 | .nilIface,j,h,_=>by simp[r9] at h
theorem kQ {n:Nat}:∀ (l:List Value) (j:Nat),j ∈ y6 0 l→n≤j→j ∈ y6 n l
 | [],j,h,_=>by simp[y6] at h
 |v::r,j,h,hj=>by
  simp only[y6,List.mem_append] at h ⊢
  exact h.imp (fun h=>aR4 v j h hj) (fun h=>kQ r j h hj)
end
mutual
theorem IN {w:VW} {H:E7} {n0:Nat}:∀ {v:V} {vI:Value},b9 w v vI→Cl H v→(∀ o ob,f7 H o=some ob→ob.none=false→∃ b,w.μ o=some b)→∀ i ∈ r9 n0 vI,w.F i∨∃ o ∈ aL v,w.μ o=some i
 | .sc x,vI,h,_,_,i,hi=>by rw[h.scv,cG n0 x (by rw[← h.scv];exact h.scv▸h.ok)] at hi;cases hi
 | .sl s n l,vI,h,hc,_,i,hi=> .inl (bO6 (d:= .sl s n l) (by simpa only[b9] using h) (by simpa only[Cl] using hc) i hi)
 | .slk s n c l,vI,h,_,_,i,hi=>by
  simp only[b9] at h
  rcases h with ⟨_,_,⟨⟨b,o,sp⟩,rfl,k,_⟩|⟨_,_,_,_,rfl⟩⟩
  ·cases sp with
   |none=>simp[r9,m9] at hi
   |some sp=>
    simp only[r9,m9] at hi
    split at hi
    ·simp at hi;subst hi;exact .inl k
    ·cases hi
  ·simp[r9,m9] at hi
 | .dp l o,vI,h,_,_,i,hi=>by
  simp only[b9] at h
  obtain ⟨⟨b,k,sp⟩,rfl,hk,_⟩:=h
  cases sp with
  |none=>simp[y5,r9,m9] at hi
  |some sp=>
   simp only[y5,r9,m9] at hi
   split at hi
   ·simp at hi;subst hi;exact .inl hk
   ·cases hi
 | .ref o k n c,vI,h,hc,hm,i,hi=>by
  simp only[b9] at h
  obtain ⟨_,_,b',rfl,q⟩:=h
  simp only[r9,m9] at hi
  split at hi
  ·simp at hi;subst hi
   simp only[Cl] at hc
   obtain ⟨ob,e1,e2⟩:=hc
   obtain ⟨b,hb⟩:=hm o ob e1 e2
   exact .inr ⟨o,by simp[aL],by rw[q b hb];exact hb⟩
  ·cases hi
 | .gr s o n,vI,h,hc,hm,i,hi=>by
  simp only[b9] at h
  rcases h with ⟨_,⟨_,rfl|⟨_,⟨b,o',sp⟩,c,rfl,k⟩⟩|⟨hn,b',rfl,q⟩⟩
  ·simp[r9,m9] at hi
  ·cases sp with
   |none=>simp[r9,m9] at hi
   |some sp=>
    simp only[r9,m9] at hi
    split at hi
    ·simp at hi;subst hi;exact .inl k
    ·cases hi
  ·simp only[r9,m9] at hi
   split at hi
   ·simp at hi;subst hi
    simp only[Cl] at hc
    obtain ⟨t,e,z,l,e1,e2⟩:=hc
    obtain ⟨b,hb⟩:=hm o _ e1 (N6 (fun e0=>hn (e2.2 e0)))
    exact .inr ⟨o,by simp[aL],by rw[q b hb];exact hb⟩
   ·cases hi
 | .ptr o k,vI,h,hc,hm,i,hi=>by
  simp only[b9] at h
  obtain ⟨_,b',rfl,q⟩:=h
  simp only[r9,m9] at hi
  split at hi
  ·simp at hi;subst hi
   simp only[Cl] at hc
   obtain ⟨ob,e1,e2⟩:=hc
   obtain ⟨b,hb⟩:=hm o ob e1 e2
   exact .inr ⟨o,by simp[aL],by rw[q b hb];exact hb⟩
  ·cases hi
 | .agg l,vI,h,hc,hm,i,hi=>by
  simp only[b9] at h
  obtain ⟨vs,rfl,h⟩:=h
  simp only[r9] at hi
  simp only[Cl] at hc
  simp only[aL]
  exact dS h hc hm i hi
 | .tup l,vI,h,hc,hm,i,hi=>by
  simp only[b9] at h
  obtain ⟨vs,rfl,h⟩:=h
  simp only[r9] at hi
  simp only[Cl] at hc
  simp only[aL]
  exact dS h hc hm i hi
 | .fn f a b,vI,h,hc,hm,i,hi=>by
  simp only[b9] at h
  obtain ⟨as,bs,rfl,h1,h2⟩:=h
  simp only[r9,List.mem_append] at hi
  simp only[Cl] at hc
  simp only[aL,List.mem_append]
  rcases hi with hi|hi
  ·rcases dS h1 hc.1 hm i hi with h|⟨o,ho,e⟩
   ·exact .inl h
   ·exact .inr ⟨o,.inl ho,e⟩
  ·rcases dS h2 hc.2 hm i hi with h|⟨o,ho,e⟩
   ·exact .inl h
   ·exact .inr ⟨o,.inr ho,e⟩
 | .ifc t v,vI,h,hc,hm,i,hi=>by
  simp only[b9] at h
  obtain ⟨v',rfl,h⟩:=h
  simp only[r9] at hi
  simp only[Cl] at hc
  simp only[aL]
  exact IN h hc hm i hi
 | .dead,vI,h,hc,hm,i,hi=>by simp only[Cl] at hc
 | .tok _,vI,h,hc,hm,i,hi=>by simp only[Cl] at hc
theorem dS {w:VW} {H:E7} {n0:Nat}:∀ {l:List V} {vs:List Value},d8 w l vs→KQ H l→(∀ o ob,f7 H o=some ob→ob.none=false→∃ b,w.μ o=some b)→∀ i ∈ y6 n0 vs,w.F i∨∃ o ∈ jX l,w.μ o=some i
 | [],vs,h,_,_,i,hi=>by simp only[d8] at h;subst h;simp[y6] at hi
 |v::r,vs,h,hc,hm,i,hi=>by
  simp only[d8] at h
  obtain ⟨u,us,rfl,h1,h2⟩:=h
  simp only[y6,List.mem_append] at hi
  simp only[KQ] at hc
  simp only[jX,List.mem_append]
  rcases hi with hi|hi
  ·rcases IN h1 hc.1 hm i hi with h|⟨o,ho,e⟩
   ·exact .inl h
   ·exact .inr ⟨o,.inl ho,e⟩
  ·rcases dS h2 hc.2 hm i hi with h|⟨o,ho,e⟩
   ·exact .inl h
   ·exact .inr ⟨o,.inr ho,e⟩
end
mutual
theorem JK {w:VW} {H:E7} {n0:Nat}:∀ {v:V} {vI:Value},b9 w v vI→Cl H v→(∀ o b,w.μ o=some b→n0≤b∧∃ ob,f7 H o=some ob∧ob.none=false)→∀ o ∈ aL v,∀ b,w.μ o=some b→b ∈ r9 n0 vI
 | .sc x,vI,h,_,_,o,ho,b,hb=>by simp[aL] at ho
 | .sl s n l,vI,h,_,_,o,ho,b,hb=>by simp[aL] at ho
 | .slk s n c l,vI,h,_,_,o,ho,b,hb=>by simp[aL] at ho
 | .dp l o',vI,h,_,_,o,ho,b,hb=>by simp[aL] at ho
 | .ref o' k n c,vI,h,hc,hm,o,ho,b,hb=>by
  simp only[aL,List.mem_singleton] at ho
  subst ho
  simp only[b9] at h
  obtain ⟨_,_,b',rfl,q⟩:=h
  have:=q b hb
  subst this
  simp only[r9,m9]
  rw[if_pos (by rw[Nat.ble_eq];exact (hm o b' hb).1)]
  simp
 | .gr s o' n,vI,h,hc,hm,o,ho,b,hb=>by
  simp only[aL,List.mem_singleton] at ho
  subst ho
  simp only[Cl] at hc
  obtain ⟨t,e,z,l,e1,e2⟩:=hc
  obtain ⟨h1,ob,h2,h3⟩:=hm o b hb
  rw[e1] at h2
  cases h2
  have hl:l ≠ []:=fun e0=>by subst e0;cases h3
  simp only[b9] at h
  rcases h with ⟨_,⟨hn,_⟩|⟨hn,b',rfl,q⟩⟩
  ·exact absurd (e2.1 hn) hl
  ·have:=q b hb
   subst this
   simp only[r9,m9]
   rw[if_pos (by rw[Nat.ble_eq];exact h1)]
   simp
 | .ptr o' k,vI,h,hc,hm,o,ho,b,hb=>by
  simp only[aL,List.mem_singleton] at ho
  subst ho
  simp only[b9] at h
  obtain ⟨_,b',rfl,q⟩:=h
  have:=q b hb
  subst this
  simp only[r9,m9]
  rw[if_pos (by rw[Nat.ble_eq];exact (hm o b' hb).1)]
  simp
 | .agg l,vI,h,hc,hm,o,ho,b,hb=>by
  simp only[b9] at h
  obtain ⟨vs,rfl,h⟩:=h
  simp only[r9]
  simp only[Cl] at hc
  simp only[aL] at ho
  exact eB h hc hm o ho b hb
 | .tup l,vI,h,hc,hm,o,ho,b,hb=>by
  simp only[b9] at h
  obtain ⟨vs,rfl,h⟩:=h
  simp only[r9]
  simp only[Cl] at hc
  simp only[aL] at ho
  exact eB h hc hm o ho b hb
 | .fn f x y,vI,h,hc,hm,o,ho,b,hb=>by
  simp only[b9] at h
  obtain ⟨as,bs,rfl,h1,h2⟩:=h
  simp only[r9,List.mem_append]
  simp only[Cl] at hc
  simp only[aL,List.mem_append] at ho
  exact ho.imp (fun ho=>eB h1 hc.1 hm o ho b hb) (fun ho=>eB h2 hc.2 hm o ho b hb)
 | .ifc t v,vI,h,hc,hm,o,ho,b,hb=>by
  simp only[b9] at h
  obtain ⟨v',rfl,h⟩:=h
  simp only[r9]
  simp only[Cl] at hc
  simp only[aL] at ho
  exact JK h hc hm o ho b hb
 | .dead,vI,h,hc,hm,o,ho,b,hb=>by simp only[Cl] at hc
 | .tok _,vI,h,hc,hm,o,ho,b,hb=>by simp only[Cl] at hc
theorem eB {w:VW} {H:E7} {n0:Nat}:∀ {l:List V} {vs:List Value},d8 w l vs→KQ H l→(∀ o b,w.μ o=some b→n0≤b∧∃ ob,f7 H o=some ob∧ob.none=false)→∀ o ∈ jX l,∀ b,w.μ o=some b→b ∈ y6 n0 vs
 | [],vs,h,_,_,o,ho,b,hb=>by simp[jX] at ho
 |v::r,vs,h,hc,hm,o,ho,b,hb=>by
  simp only[d8] at h
  obtain ⟨u,us,rfl,h1,h2⟩:=h
  simp only[y6,List.mem_append]
  simp only[KQ] at hc
  simp only[jX,List.mem_append] at ho
  exact ho.imp (fun ho=>JK h1 hc.1 hm o ho b hb) (fun ho=>eB h2 hc.2 hm o ho b hb)
end
theorem HH {E:E6} {h:j8} {a:Addr}:m8 E h a=match a.spot with|none=>E.old a.block a.off|some 0=>(d9 h a.block).bind fun b=>B1 b.cells a.off|some (_+1)=>none:=rfl
def eP (E:E6):Prop:=∀ b o v,E.old b o=some v→r9 0 v= []∨∃ k x y,v= .complex k x y
structure GI (E:E6) (n0:Nat) (h0 hf:j8) (F0 F:Nat→Prop) (ord:List Nat) (bs:List u5):Prop where
 old:eP E
 low:∀ b,b<n0→d9 hf b=d9 h0 b
 f0:∀ b,F0 b→b<n0∧∃ blk,d9 h0 b=some blk∧∀ n,∀ i ∈ y6 n blk.cells,F0 i
 ff:∀ b,F b→b<n0→F0 b
 fc:∀ b,F b→∃ blk,d9 hf b=some blk∧∀ n,∀ i ∈ y6 n blk.cells,F i
 nd:ord.Nodup
 oo:∀ i ∈ ord,n0≤i∧∃ b,d9 hf i=some b∧∀ j ∈ y6 n0 b.cells,j ∈ ord
 pk:cA n0 hf ord ord=some bs
section
variable {E:E6} {n0:Nat} {h0 hf:j8} {F0 F:Nat→Prop} {ord:List Nat} {bs:List u5} {μ:Nat→Option Nat} {nx:Nat}
def F2 (n0:Nat) (F:Nat→Prop) (ord:List Nat) (b:Nat):Prop:=(b<n0∧F b)∨∃ i ∈ ord,F i∧b=z8 n0 ord i
def mu2 (n0:Nat) (ord:List Nat) (μ:Nat→Option Nat) (o:Nat):Option Nat:=(μ o).bind fun b=>if l7 b ord then some (z8 n0 ord b) else none
theorem X4 {i:Nat} (h:i<n0):z8 n0 ord i=i:=by unfold z8;rw[if_pos (by rw[Nat.blt_eq];exact h)]
theorem yY {i:Nat} (h:n0≤i):z8 n0 ord i=n0+K0 i ord:=by unfold z8;rw[if_neg (by rw[Nat.blt_eq];omega)]
theorem GI.inj (g:GI E n0 h0 hf F0 F ord bs) {i j:Nat} (hi:i ∈ ord) (hj:j ∈ ord) (e:z8 n0 ord i=z8 n0 ord j):i=j:=by
 rw[yY (g.oo i hi).1,yY (g.oo j hj).1] at e
 obtain ⟨_,k1⟩:=bX ord i hi
 obtain ⟨_,k2⟩:=bX ord j hj
 rw[show K0 i ord=K0 j ord by omega] at k1
 rw[k1] at k2
 exact Option.some.inj k2
theorem GI.get (g:GI E n0 h0 hf F0 F ord bs) {i:Nat} (hi:i ∈ ord):∃ b,d9 hf i=some b∧d9 (x4 h0 n0 bs) (z8 n0 ord i)=some {b with cells:=V3 (z8 n0 ord) b.cells}∧z8 n0 ord i<n0+bs.length∧n0≤z8 n0 ord i:=by
 obtain ⟨k1,k2⟩:=bX ord i hi
 obtain ⟨p1,p2⟩:=jJ ord g.pk
 obtain ⟨b,b1,b2⟩:=p2 _ i k2
 rw[yY (g.oo i hi).1]
 refine ⟨b,b1,?_,by omega,by omega⟩
 rw[w8,if_pos (by omega),show n0+K0 i ord - n0=K0 i ord by omega]
 exact b2
theorem GI.lowget (g:GI E n0 h0 hf F0 F ord bs) {b:Nat} (h:b<n0):d9 (x4 h0 n0 bs) b=d9 h0 b:=by
 rw[w8,if_neg (by omega)]
abbrev gw (E:E6) (hf:j8) (F:Nat→Prop) (μ:Nat→Option Nat) (nx:Nat):VW:=⟨m8 E hf,F,μ,nx⟩
theorem aW9 {f:Nat→Nat} {v:Value} (h:r9 0 v= []):R5 f v=v:=jL (n0:=0) (fun i hi=>by omega) v h
def IdO (n0:Nat) (ord:List Nat) (v:Value):Prop:=(∀ i ∈ r9 n0 v,i ∈ ord)∨∃ k x y,v= .complex k x y
theorem GI.cell (g:GI E n0 h0 hf F0 F ord bs) {a:Addr} {v:Value} (hi:a.spot=none∨F a.block) (ha:a.spot=none∨a.block<n0∨a.block ∈ ord) (h:m8 E hf a=some v):
  m8 E (x4 h0 n0 bs) ⟨if a.spot.isSome then z8 n0 ord a.block else a.block,a.off,a.spot⟩=some (R5 (z8 n0 ord) v)∧IdO n0 ord v:=by
 obtain ⟨b,o,sp⟩:=a
 cases sp with
 |none=>
  simp only[m8] at h ⊢
  rcases g.old b o v h with h1|⟨k,x,y,rfl⟩
  ·rw[aW9 h1]
   exact ⟨h,.inl fun i hi=>by rw[rK v h1 n0] at hi;cases hi⟩
  ·exact ⟨h,.inr ⟨k,x,y,rfl⟩⟩
 |some k=>
  have hF:F b:=by simpa using hi
  obtain rfl:k=0:=by
   cases k with
   |zero=>rfl
   |succ k=>simp[m8] at h
  simp only[m8,Option.isSome_some,if_true] at h ⊢
  have ha:b<n0∨b ∈ ord:=by simpa using ha
  rcases ha with hb|hb
  ·rw[X4 hb,g.lowget hb]
   rw[g.low b hb] at h
   obtain ⟨_,blk,e1,e2⟩:=g.f0 b (g.ff b hF hb)
   rw[e1] at h ⊢
   simp only[Option.bind_some,x7] at h ⊢
   have hv:r9 n0 v= []:=by
    cases hids:r9 n0 v with
    |nil=>rfl
    |cons i r=>
     have h1:i ∈ r9 n0 v:=by rw[hids];simp
     have h2:=(g.f0 i (e2 n0 i (NV _ _ _ h i h1))).1
     have h3:=rL v i h1
     omega
   rw[jL (fun i hi=>X4 hi) v hv]
   exact ⟨h,.inl fun i hi=>by rw[hv] at hi;cases hi⟩
  ·obtain ⟨blk,e1,e2,_⟩:=g.get hb
   rw[e2]
   rw[e1] at h
   simp only[Option.bind_some,x7] at h ⊢
   refine ⟨by rw[aW7,h];rfl,.inl fun i hi=>?_⟩
   obtain ⟨_,blk',e1',e2'⟩:=g.oo b hb
   rw[e1] at e1'
   cases e1'
   exact e2' i (NV _ _ _ h i hi)
abbrev JJ (n0:Nat) (ord:List Nat) (a:Addr):Addr:=⟨if a.spot.isSome then z8 n0 ord a.block else a.block,a.off,a.spot⟩
theorem kD (a:Addr):H8 (z8 n0 ord) (some a)=some (JJ n0 ord a):=by
 obtain ⟨b,o,sp⟩:=a
 cases sp<;>rfl
theorem aW5 (a:Addr) (k:Nat):JJ n0 ord (y5 a k)=y5 (JJ n0 ord a) k:=rfl
theorem aR5 {w:VW} {a:Addr} (h:w.inF a):a.spot=none∨w.F a.block:=by
 unfold VW.inF at h
 split at h
 ·rename_i e;exact .inl e
 ·exact .inr h
theorem GI.inF2 (g:GI E n0 h0 hf F0 F ord bs) {a:Addr} (h:(gw E hf F μ nx).inF a) (ha:a.spot=none∨a.block<n0∨a.block ∈ ord):(gw E (x4 h0 n0 bs) (F2 n0 F ord) (mu2 n0 ord μ) nx).inF (JJ n0 ord a):=by
 obtain ⟨b,o,sp⟩:=a
 cases sp with
 |none=>trivial
 |some k=>
  have hF:F b:=h
  have ha:b<n0∨b ∈ ord:=by simpa using ha
  show F2 n0 F ord (z8 n0 ord b)
  rcases ha with hb|hb
  ·rw[X4 hb];exact .inl ⟨hb,hF⟩
  ·exact .inr ⟨b,hb,hF,rfl⟩
theorem oX {a:Addr} {v:Value} (hv:(∃ n c,v= .slice (some a) n c)∨v= .pointer (some a)) (h:IdO n0 ord v):a.spot=none∨a.block<n0∨a.block ∈ ord:=by
 obtain ⟨b,o,sp⟩:=a
 cases sp with
 |none=>exact .inl rfl
 |some k=>
  right
  rcases Nat.lt_or_ge b n0 with hb|hb
  ·exact .inl hb
  ·right
   rcases hv with ⟨n,c,rfl⟩|rfl
   ·rcases h with h|⟨_,_,_,e⟩
    ·exact h b (by simp only[r9,m9];rw[if_pos (by rw[Nat.ble_eq];exact hb)];simp)
    ·cases e
   ·rcases h with h|⟨_,_,_,e⟩
    ·exact h b (by simp only[r9,m9];rw[if_pos (by rw[Nat.ble_eq];exact hb)];simp)
    ·cases e
mutual
theorem GI.rD (g:GI E n0 h0 hf F0 F ord bs):∀ {d:D} {v:Value},u7 (gw E hf F μ nx) d v→IdO n0 ord v→u7 (gw E (x4 h0 n0 bs) (F2 n0 F ord) (mu2 n0 ord μ) nx) d (R5 (z8 n0 ord) v)
 | .sc x,v,h,_=>by
  simp only[u7] at h ⊢
  obtain ⟨rfl,h⟩:=h
  exact ⟨jL (fun i hi=>X4 hi) v (cG n0 v h),h⟩
 | .sl s n l,v,h,hi=>by
  simp only[u7] at h ⊢
  rcases h with ⟨a,c,rfl,k,kc,kA,ks⟩|⟨h1,h2,h3,h4⟩
  ·left
   have ha:=oX (.inl ⟨n,c,rfl⟩) hi
   refine ⟨JJ n0 ord a,c,?_,g.inF2 k ha,kc,g.rA k ha kA,ks⟩
   simp only[R5,kD]
  ·right
   refine ⟨h1,h2,h3,?_⟩
   rcases h4 with rfl|⟨hs,a,b,e,rfl⟩
   ·exact .inl rfl
   ·exact .inr ⟨hs,a,b,e,rfl⟩
theorem GI.rA (g:GI E n0 h0 hf F0 F ord bs):∀ {l:List D} {a:Addr},(gw E hf F μ nx).inF a→(a.spot=none∨a.block<n0∨a.block ∈ ord)→u9 (gw E hf F μ nx) l a→u9 (gw E (x4 h0 n0 bs) (F2 n0 F ord) (mu2 n0 ord μ) nx) l (JJ n0 ord a)
 | [],a,_,_,_=>by simp only[u9]
 |d::r,a,i,ha,h=>by
  simp only[u9] at h ⊢
  obtain ⟨⟨v,h1,h2⟩,h3⟩:=h
  obtain ⟨c1,c2⟩:=g.cell (aR5 i) ha h1
  exact ⟨⟨_,c1,g.rD h2 c2⟩,g.rA (a:=y5 a 1) (kR i) ha h3⟩
end
theorem GI.rDL (g:GI E n0 h0 hf F0 F ord bs):∀ {l:List D} {vs:List Value},j6 (gw E hf F μ nx) l vs→(∀ i ∈ y6 n0 vs,i ∈ ord)→j6 (gw E (x4 h0 n0 bs) (F2 n0 F ord) (mu2 n0 ord μ) nx) l (V3 (z8 n0 ord) vs)
 | [],vs,h,_=>by simp only[j6] at h ⊢;subst h;rfl
 |d::r,vs,h,hi=>by
  simp only[j6] at h ⊢
  obtain ⟨v,vs',rfl,h1,h2⟩:=h
  simp only[y6,List.mem_append] at hi
  exact ⟨_,_,rfl,g.rD h1 (.inl fun i h=>hi i (.inl h)),g.rDL h2 fun i h=>hi i (.inr h)⟩
theorem R0 {o b:Nat} (h:mu2 n0 ord μ o=some b):∃ i,μ o=some i∧i ∈ ord∧b=z8 n0 ord i:=by
 simp only[mu2,Option.bind_eq_some_iff] at h
 obtain ⟨i,h1,h2⟩:=h
 split at h2
 ·rename_i he;cases h2;exact ⟨i,h1,(j4 _ _).1 he,rfl⟩
 ·cases h2
mutual
theorem GI.rV (g:GI E n0 h0 hf F0 F ord bs):∀ {d:V} {v:Value},b9 (gw E hf F μ nx) d v→(∀ i ∈ r9 n0 v,i ∈ ord)→b9 (gw E (x4 h0 n0 bs) (F2 n0 F ord) (mu2 n0 ord μ) nx) d (R5 (z8 n0 ord) v)
 | .sc x,v,h,_=>by
  simp only[b9] at h ⊢
  obtain ⟨rfl,h⟩:=h
  exact ⟨jL (fun i hi=>X4 hi) v (cG n0 v h),h⟩
 | .sl s n l,v,h,hi=>by simp only[b9] at h ⊢;exact g.rD h (.inl hi)
 | .slk s n c l,v,h,hi=>by
  simp only[b9] at h ⊢
  refine ⟨h.1,h.2.1,?_⟩
  rcases h.2.2 with ⟨a,rfl,k,kA⟩|⟨h1,h2,h3,h4,rfl⟩
  ·left
   have ha:=oX (.inl ⟨n,c,rfl⟩) (.inl hi)
   exact ⟨JJ n0 ord a,by simp only[R5,kD],g.inF2 k ha,g.rA k ha kA⟩
  ·exact .inr ⟨h1,h2,h3,h4,rfl⟩
 | .dp l o,v,h,hi=>by
  simp only[b9] at h ⊢
  obtain ⟨a,rfl,k,kA⟩:=h
  have ha:a.spot=none∨a.block<n0∨a.block ∈ ord:=oX (a:=y5 a o) (.inr rfl) (.inl hi)
  exact ⟨JJ n0 ord a,by simp only[R5,kD,aW5],g.inF2 k ha,g.rA k ha kA⟩
 | .ref o k n c,v,h,hi=>by
  simp only[b9] at h ⊢
  obtain ⟨h1,h2,b',rfl,q⟩:=h
  refine ⟨h1,h2,z8 n0 ord b',by simp only[R5,H8],fun b hb=>?_⟩
  obtain ⟨i,e1,e2,rfl⟩:=R0 hb
  rw[q i e1]
 | .gr s o n,v,h,hi=>by
  simp only[b9] at h ⊢
  refine ⟨h.1,?_⟩
  rcases h.2 with ⟨h1,rfl|⟨h2,a,c,rfl,k⟩⟩|⟨h1,b',rfl,q⟩
  ·exact .inl ⟨h1,.inl rfl⟩
  ·have ha:=oX (.inl ⟨0,c,rfl⟩) (.inl hi)
   exact .inl ⟨h1,.inr ⟨h2,JJ n0 ord a,c,by simp only[R5,kD],g.inF2 k ha⟩⟩
  ·refine .inr ⟨h1,z8 n0 ord b',by simp only[R5,H8],fun b hb=>?_⟩
   obtain ⟨i,e1,e2,rfl⟩:=R0 hb
   rw[q i e1]
 | .ptr o k,v,h,hi=>by
  simp only[b9] at h ⊢
  obtain ⟨h1,b',rfl,q⟩:=h
  refine ⟨h1,z8 n0 ord b',by simp only[R5,H8],fun b hb=>?_⟩
  obtain ⟨i,e1,e2,rfl⟩:=R0 hb
  rw[q i e1]
 | .agg l,v,h,hi=>by
  simp only[b9] at h ⊢
  obtain ⟨vs,rfl,h⟩:=h
  simp only[r9] at hi
  exact ⟨_,by simp only[R5],g.rVL h hi⟩
 | .tup l,v,h,hi=>by
  simp only[b9] at h ⊢
  obtain ⟨vs,rfl,h⟩:=h
  simp only[r9] at hi
  exact ⟨_,by simp only[R5],g.rVL h hi⟩
 | .fn f a b,v,h,hi=>by
  simp only[b9] at h ⊢
  obtain ⟨as,bs',rfl,h1,h2⟩:=h
  simp only[r9,List.mem_append] at hi
  exact ⟨_,_,by simp only[R5],g.rVL h1 fun i h=>hi i (.inl h),g.rVL h2 fun i h=>hi i (.inr h)⟩
 | .ifc t u,v,h,hi=>by
  simp only[b9] at h ⊢
  obtain ⟨v',rfl,h⟩:=h
  simp only[r9] at hi
  exact ⟨_,by simp only[R5],g.rV h hi⟩
 | .dead,v,h,hi=>by simp only[b9]
 | .tok o,v,h,hi=>by
  simp only[b9] at h ⊢
  obtain ⟨h1,b',rfl,q⟩:=h
  refine ⟨h1,z8 n0 ord b',by simp only[R5],fun b hb=>?_⟩
  obtain ⟨i,e1,e2,rfl⟩:=R0 hb
  rw[q i e1]
theorem GI.rVL (g:GI E n0 h0 hf F0 F ord bs):∀ {l:List V} {vs:List Value},d8 (gw E hf F μ nx) l vs→(∀ i ∈ y6 n0 vs,i ∈ ord)→d8 (gw E (x4 h0 n0 bs) (F2 n0 F ord) (mu2 n0 ord μ) nx) l (V3 (z8 n0 ord) vs)
 | [],vs,h,_=>by simp only[d8] at h ⊢;subst h;rfl
 |d::r,vs,h,hi=>by
  simp only[d8] at h ⊢
  obtain ⟨v,vs',rfl,h1,h2⟩:=h
  simp only[y6,List.mem_append] at hi
  exact ⟨_,_,rfl,g.rV h1 fun i h=>hi i (.inl h),g.rVL h2 fun i h=>hi i (.inr h)⟩
end
theorem cB1 {C:D0} {st:l9} {sf:St} {μ:Nat→Option Nat} {F F0:Nat→Prop} {h0:j8} {v:V} {vI:Value} (h:SR C st sf μ F) (hU:∀ b,b<C.n0→C.U b) (hh:C.h0=h0) (hro:st.ro=0) (hp:sf.prot=C.n0) (hold:eP C.E)
  (hF0:∀ b,F0 b→b<C.n0∧∃ blk,d9 h0 b=some blk∧∀ n,∀ i ∈ y6 n blk.cells,F0 i) (hFF:∀ b,F b→F0 b∨C.n0≤b) (hle:∀ b,F0 b→F b) (hb0:∀ b blk,d9 h0 b=some blk→b<C.n0)
  (hv:b9 (t8 C st sf μ F) v vI) (hR:bM st.own v):
  ∃ v2 bs μ2 G,gc C.n0 sf.heap vI=some (v2,bs)∧SR C st ⟨x4 h0 C.n0 bs,C.n0+bs.length,C.n0⟩ μ2 G∧b9 (t8 C st ⟨x4 h0 C.n0 bs,C.n0+bs.length,C.n0⟩ μ2 G) v v2∧(∀ b,G b→F0 b∨C.n0≤b)∧(∀ b,F0 b→G b)∧(r9 C.n0 vI= []→bs= []):=by
 have hmu:∀ o b,μ o=some b→C.n0≤b∧∃ ob,f7 st.own o=some ob∧ob.none=false:=fun o b e=>⟨by rw[← hp];exact h.pb o b e (by rw[hro];exact Nat.zero_le _),(h.dom o b e).2.2⟩
 have hlive:∀ o ob,f7 st.own o=some ob→ob.none=false→∃ b,μ o=some b:=fun o ob e hn=>by
  obtain ⟨b,_,m1,_⟩:=h.obj o ob e hn
  exact ⟨b,m1⟩
 have hRc:∀ b,(F b∨∃ o,μ o=some b)→C.n0≤b→∃ blk,d9 sf.heap b=some blk∧∀ i ∈ y6 C.n0 blk.cells,F i∨∃ o,μ o=some i:=by
  rintro b (hb|⟨o,e⟩) _
  ·obtain ⟨blk,c1,c2⟩:=h.cl b hb
   exact ⟨blk,c1,fun i hi=> .inl (c2 _ i hi)⟩
  ·obtain ⟨_,ob,e1,e2⟩:=hmu o b e
   obtain ⟨b',blk,m1,m2,m3⟩:=h.obj o ob e1 e2
   rw[e] at m1;cases m1
   refine ⟨blk,m2,fun i hi=>?_⟩
   cases ob with
   |box t e' l=>
    rcases dS m3.2.2.2 (hR.box o t e' l e1) hlive i hi with hh|⟨o',_,e'⟩
    ·exact .inl hh
    ·exact .inr ⟨o',e'⟩
   |row t e' g' z l=>exact .inl (xE m3.2.2.2 (h.own o _ e1).2 i hi)
   |gro t e' z l=>exact .inl (xE m3.2.2.2 (h.own o _ e1).2 i hi)
 have hroot:∀ i ∈ r9 C.n0 vI,C.n0≤i∧(F i∨∃ o,μ o=some i):=fun i hi=>by
  refine ⟨rL vI i hi,?_⟩
  rcases IN hv hR.cl hlive i hi with hh|⟨o,_,e⟩
  ·exact .inl hh
  ·exact .inr ⟨o,e⟩
 have hord:∃ ord bs,ord.Nodup∧(∀ i ∈ ord,C.n0≤i∧∃ b,d9 sf.heap i=some b∧∀ j ∈ y6 C.n0 b.cells,j ∈ ord)∧cA C.n0 sf.heap ord ord=some bs∧(∀ i ∈ r9 C.n0 vI,i ∈ ord)∧gc C.n0 sf.heap vI=some (R5 (z8 C.n0 ord) vI,bs)∧(r9 C.n0 vI= []→bs= []):=by
  cases hids:r9 C.n0 vI with
  |nil=>
   refine ⟨[],[],List.nodup_nil,(fun i hi=>by cases hi),rfl,(fun i hi=>by cases hi),?_,fun _=>rfl⟩
   unfold gc
   rw[hids,jL (fun i hi=>X4 hi) vI hids]
  |cons x r=>
   obtain ⟨d,hd⟩:=JI hRc (r9 C.n0 vI) hroot
   obtain ⟨f,hf⟩:=tX hd
   obtain ⟨d1,_,d3,d4⟩:=fT C.n0 sf.heap f _ [] d hf (fun i hi=>rL vI i hi) List.nodup_nil
   have d5:∀ i ∈ d.reverse,C.n0≤i∧∃ b,d9 sf.heap i=some b∧∀ j ∈ y6 C.n0 b.cells,j ∈ d.reverse:=fun i hi=>by
    rcases d4 i (by simpa using hi) with h|⟨h5,b,h6,h7⟩
    ·cases h
    ·exact ⟨h5,b,h6,fun j hj=>by simpa using h7 j hj⟩
   obtain ⟨bs,hbs⟩:=pN (n0:=C.n0) (ord:=d.reverse) d.reverse (fun i hi=>by obtain ⟨_,b,hb,_⟩:=d5 i hi;exact ⟨b,hb⟩)
   refine ⟨d.reverse,bs,by unfold List.Nodup at d1 ⊢;rw[List.pairwise_reverse];exact d1.imp Ne.symm,d5,hbs,fun i hi=>by simpa using d3 i (by rw[hids];exact hi),?_,fun e=>by cases e⟩
   unfold gc
   rw[hids]
   rw[hids] at hd
   simp only[hd,Option.bind_some,hbs,Option.map_some]
 obtain ⟨ord,bs,o1,o2,o3,o4,o5,o6⟩:=hord
 have g:GI C.E C.n0 h0 sf.heap F0 F ord bs:=⟨hold,fun b hb=>by have:=(h.un b (hU b hb)).2;rw[hh] at this;exact this,hF0,fun b hb hlt=>(hFF b hb).resolve_right (by omega),h.cl,o1,o2,o3⟩
 have hreach:∀ o,VR st.own v o→∀ b,μ o=some b→b ∈ ord:=by
  intro o hvr
  induction hvr with
  |root o ho=>exact fun b hb=>o4 b (JK hv hR.cl hmu o ho b hb)
  |box o o1' t e l _ hbox ho ih=>
   intro b hb
   obtain ⟨b1,blk,m1,m2,m3⟩:=h.obj o1' _ hbox rfl
   have hb1:=ih b1 m1
   obtain ⟨_,blk',e1,e2⟩:=o2 b1 hb1
   rw[m2] at e1
   cases e1
   exact e2 b (eB m3.2.2.2 (hR.box o1' t e l hbox) hmu o ho b hb)
 have hin:∀ o b,μ o=some b→b ∈ ord:=fun o b e=>by
  obtain ⟨_,ob,e1,e2⟩:=hmu o b e
  exact hreach o (hR.all o ob e1 e2) b e
 have hmu2:∀ o b,μ o=some b→mu2 C.n0 ord μ o=some (z8 C.n0 ord b):=fun o b e=>by
  simp only[mu2,e,Option.bind_some]
  rw[if_pos ((j4 _ _).2 (hin o b e))]
 have hF2:∀ b,b ∈ ord→(F2 C.n0 F ord (z8 C.n0 ord b)↔F b):=fun b hb=>by
  constructor
  ·rintro (⟨h1,_⟩|⟨i,hi,h1,h2⟩)
   ·have:=(g.get hb);obtain ⟨_,_,_,_,h3⟩:=this;omega
   ·rw[g.inj hb hi h2];exact h1
  ·exact fun hf=> .inr ⟨b,hb,hf,rfl⟩
 refine ⟨R5 (z8 C.n0 ord) vI,bs,mu2 C.n0 ord μ,F2 C.n0 F ord,o5,⟨?_,?_,?_,?_,?_,?_,?_,?_,?_,h.own,?_,?_,?_⟩,g.rV hv o4,?_,?_,o6⟩
 ·intro o ob e hn
  obtain ⟨b,blk,m1,m2,m3⟩:=h.obj o ob e hn
  have hb:=hin o b m1
  obtain ⟨blk',e1,e2,_⟩:=g.get hb
  rw[m2] at e1
  cases e1
  refine ⟨_,_,hmu2 o b m1,e2,?_⟩
  obtain ⟨_,blk2,e1',e2'⟩:=o2 b hb
  rw[m2] at e1'
  cases e1'
  cases ob with
  |box t e' l=>exact ⟨m3.1,m3.2.1,m3.2.2.1,g.rVL m3.2.2.2 e2'⟩
  |row t e' g' z l=>exact ⟨m3.1,m3.2.1,m3.2.2.1,g.rDL m3.2.2.2 e2'⟩
  |gro t e' z l=>exact ⟨m3.1,m3.2.1,m3.2.2.1,g.rDL m3.2.2.2 e2'⟩
 ·intro o ob b e e2 hz
  obtain ⟨i,e3,e4,rfl⟩:=R0 e2
  obtain ⟨_,_,_,_,h4⟩:=g.get e4
  refine ⟨fun hf=>(h.wr o ob i e e3 hz).1 ((hF2 i e4).1 hf),fun _=>⟨h4,fun hu=>by have:=(h.un _ hu).1;omega⟩⟩
 ·intro o ob b e e2 hz
  obtain ⟨i,e3,e4,rfl⟩:=R0 e2
  exact (hF2 i e4).2 (h.fz o ob i e e3 hz)
 ·intro o o' b e e'
  obtain ⟨i,e3,e4,rfl⟩:=R0 e
  obtain ⟨j,e5,e6,e7⟩:=R0 e'
  rw[← g.inj e4 e6 e7] at e5
  exact h.inj o o' i e3 e5
 ·intro o b e
  obtain ⟨i,e3,e4,rfl⟩:=R0 e
  obtain ⟨_,_,_,h3,_⟩:=g.get e4
  exact ⟨h3,(h.dom o i e3).2⟩
 ·rintro b (⟨h1,h2⟩|⟨i,hi,h1,rfl⟩)
  ·obtain ⟨_,blk,e1,_⟩:=hF0 b (g.ff b h2 h1)
   exact ⟨by simp only;omega,blk,by simp only;rw[g.lowget h1];exact e1⟩
  ·obtain ⟨_,_,e2,h3,_⟩:=g.get hi
   exact ⟨h3,_,e2⟩
 ·rintro b (⟨h1,h2⟩|⟨i,hi,h1,rfl⟩)
  ·obtain ⟨_,blk,e1,e2⟩:=hF0 b (g.ff b h2 h1)
   refine ⟨blk,by simp only;rw[g.lowget h1];exact e1,fun n j hj=> .inl ⟨(hF0 j (e2 n j hj)).1,hle j (e2 n j hj)⟩⟩
  ·obtain ⟨blk,e1,e2,_⟩:=g.get hi
   obtain ⟨blk',c1,c2⟩:=h.cl i h1
   rw[e1] at c1
   cases c1
   refine ⟨_,e2,fun n j hj=>?_⟩
   rcases dR _ n _ j hj with ⟨k,hk,rfl⟩|⟨_,hm⟩
   ·have hFk:=c2 0 k hk
    rcases Nat.lt_or_ge k C.n0 with hlt|hge
    ·rw[X4 hlt];exact .inl ⟨hlt,hFk⟩
    ·have hkn:k ∈ y6 C.n0 blk.cells:=kQ _ k hk hge
     obtain ⟨_,blk2,d1,d2⟩:=o2 i hi
     rw[e1] at d1
     cases d1
     exact .inr ⟨k,d2 k hkn,hFk,rfl⟩
   ·have:=(h.lt _ (c2 sf.next _ (hm sf.next))).1
    omega
 ·intro b hb
  obtain ⟨u1,u2⟩:=h.un b hb
  exact ⟨u1,by simp only;rw[g.lowget u1,hh]⟩
 ·simp only;omega
 ·intro b blk hb
  simp only at hb ⊢
  rw[w8] at hb
  split at hb
  ·omega
  ·have:=hb0 b blk hb;omega
 ·simp only;omega
 ·intro o b e _
  obtain ⟨i,e3,e4,rfl⟩:=R0 e
  obtain ⟨_,_,_,_,h4⟩:=g.get e4
  exact h4
 ·rintro b (⟨h1,h2⟩|⟨i,hi,h1,rfl⟩)
  ·exact hFF b h2
  ·obtain ⟨_,_,_,_,h4⟩:=g.get hi
   exact .inr h4
 ·exact fun b hb=> .inl ⟨(hF0 b hb).1,hle b hb⟩
end
mutual
def w7:V→Bool
 | .sc _=>true
 | .agg l=>oN l
 | .tup l=>oN l
 | .ifc _ v=>w7 v
 |_=>false
def oN:List V→Bool
 | []=>true
 |v::r=>w7 v && oN r
end
mutual
theorem oO {w:VW}:∀ {v:V} {vI:Value},b9 w v vI→w7 v=true→(∀ n,r9 n vI= [])∧∀ w',b9 w' v vI
 | .sc x,vI,h,_=>by
  have hx:=h.ok
  have:=h.scv
  subst this
  exact ⟨fun n=>cG n vI hx,fun w'=> .mksc hx⟩
 | .agg l,vI,h,hf=>by
  simp only[b9] at h
  obtain ⟨vs,rfl,h⟩:=h
  obtain ⟨a1,a2⟩:=wP h (by simpa only[w7] using hf)
  exact ⟨fun n=>by simp only[r9];exact a1 n,fun w'=>by simp only[b9];exact ⟨vs,rfl,a2 w'⟩⟩
 | .tup l,vI,h,hf=>by
  simp only[b9] at h
  obtain ⟨vs,rfl,h⟩:=h
  obtain ⟨a1,a2⟩:=wP h (by simpa only[w7] using hf)
  exact ⟨fun n=>by simp only[r9];exact a1 n,fun w'=>by simp only[b9];exact ⟨vs,rfl,a2 w'⟩⟩
 | .sl _ _ _,vI,h,hf=>by simp[w7] at hf
 | .slk _ _ _ _,vI,h,hf=>by simp[w7] at hf
 | .dp _ _,vI,h,hf=>by simp[w7] at hf
 | .ref _ _ _ _,vI,h,hf=>by simp[w7] at hf
 | .gr _ _ _,vI,h,hf=>by simp[w7] at hf
 | .ptr _ _,vI,h,hf=>by simp[w7] at hf
 | .fn _ _ _,vI,h,hf=>by simp[w7] at hf
 | .ifc t v,vI,h,hf=>by
  simp only[b9] at h
  obtain ⟨u,rfl,h⟩:=h
  obtain ⟨a1,a2⟩:=oO h (by simpa only[w7] using hf)
  exact ⟨fun n=>by simp only[r9];exact a1 n,fun w'=>by simp only[b9];exact ⟨u,rfl,a2 w'⟩⟩
 | .dead,vI,h,hf=>by simp[w7] at hf
 | .tok _,vI,h,hf=>by simp[w7] at hf
theorem wP {w:VW}:∀ {l:List V} {vs:List Value},d8 w l vs→oN l=true→(∀ n,y6 n vs= [])∧∀ w',d8 w' l vs
 | [],vs,h,_=>by simp only[d8] at h;subst h;exact ⟨fun n=>rfl,fun w'=>by simp only[d8]⟩
 |v::r,vs,h,hf=>by
  simp only[oN,Bool.and_eq_true] at hf
  simp only[d8] at h
  obtain ⟨u,us,rfl,h1,h2⟩:=h
  obtain ⟨a1,a2⟩:=oO h1 hf.1
  obtain ⟨b1,b2⟩:=wP h2 hf.2
  exact ⟨fun n=>by simp[y6,a1 n,b1 n],fun w'=>by simp only[d8];exact ⟨u,us,rfl,a2 w',b2 w'⟩⟩
end
abbrev YQ (E:E6) (h:j8) (F:Nat→Prop):VW:=⟨m8 E h,F,fun _=>none,0⟩
def ClF (h:j8) (n:Nat) (F:Nat→Prop):Prop:=∀ b,F b→b<n∧∃ blk,d9 h b=some blk∧∀ n,∀ i ∈ y6 n blk.cells,F i
def k8 (E:E6) (f:FuncId) (xs:List V) (v:V) (st1:l9):Prop:=
 ∀ (s:St) (F:Nat→Prop) (xsI:List Value),ClF s.heap s.next F→(∀ b blk,d9 s.heap b=some blk→b<s.next)→d8 (YQ E s.heap F) xs xsI→
  ∃ vI bs μ G,E.pcall f xsI s=some (vI,bs)∧SR (C1 E s (YQ E s.heap F)) st1 ⟨x4 s.heap s.next bs,s.next+bs.length,s.next⟩ μ G∧b9 (t8 (C1 E s (YQ E s.heap F)) st1 ⟨x4 s.heap s.next bs,s.next+bs.length,s.next⟩ μ G) v vI∧(∀ b,G b→F b∨s.next≤b)∧(∀ b,F b→G b)∧(w7 v=true→bs= [])
section
variable {C:D0} {st:l9} {s:St} {μ:Nat→Option Nat} {F:Nat→Prop}
theorem SR.env (h:SR C st s μ F) {C':D0} (hE:m8 C'.E=m8 C.E) (hn:C'.n0=C.n0) (hh:C'.h0=C.h0) (hU:C'.U=C.U):SR C' st s μ F:=by
 have hw:t8 C' st s μ F=t8 C st s μ F:=by
  show (⟨m8 C'.E s.heap,F,μ,st.next⟩:VW)=⟨m8 C.E s.heap,F,μ,st.next⟩
  rw[hE]
 refine ⟨fun o ob e hnn=>?_,fun o ob b e1 e2 e3=>?_,h.fz,h.inj,h.dom,h.lt,h.cl,fun b hb=>?_,by rw[hn];exact h.n0,h.own,h.hb,h.pr,h.pb⟩
 ·rw[hw];exact h.obj o ob e hnn
 ·rw[hU];exact h.wr o ob b e1 e2 e3
 ·rw[hU] at hb;rw[hn,hh];exact h.un b hb
theorem SR.start {E:E6} {w0:VW} (hF:ClF s.heap s.next F) (hb:∀ b blk,d9 s.heap b=some blk→b<s.next):SR (C1 E s w0) ⟨[],0,0⟩ ⟨s.heap,s.next,s.next⟩ (fun _=>none) F:=
 ⟨(fun o ob e=>by cases e),(fun o ob b e=>by cases e),(fun o ob b e=>by cases e),(fun o o' b e=>by cases e),(fun o b e=>by cases e),(fun b h=>⟨(hF b h).1,by obtain ⟨blk,h1,_⟩:=(hF b h).2;exact ⟨blk,h1⟩⟩),(fun b h=>(hF b h).2),
  (fun b h=>⟨h,rfl⟩),Nat.le_refl _,(fun o ob e=>by cases e),hb,Nat.le_refl _,(fun o b e=>by cases e)⟩
def R8:Nat→List V→E0
 |_,[]=> []
 |n,v::r=>(n,v)::R8 (n+1) r
theorem eK {w:VW}:∀ {xs:List V} {vs:List Value} (n:Nat),d8 w xs vs→FR w (R8 n xs) (dM n vs)
 | [],vs,n,h=>fun t v e=>by cases e
 |x::r,vs,n,h=>by
  simp only[d8] at h
  obtain ⟨v,vs',rfl,h1,h2⟩:=h
  intro t u e
  simp only[R8] at e
  rw[j9] at e
  simp only[dM]
  rw[H4]
  split at e
  ·rename_i ht
   cases e
   exact ⟨v,by rw[if_pos ht],h1⟩
  ·rename_i ht
   obtain ⟨vI,a,b⟩:=eK (n+1) h2 t u e
   exact ⟨vI,by rw[if_neg ht];exact a,b⟩
def L2 (C:D0) (fr:E0) (st:l9):List (Nat × Option (Option Nat))→Option (List V)
 | []=>some []
 |(t,none)::r=>(f7 fr t).bind fun v=>(L2 C fr st r).map (v::·)
 |(t,some g)::r=>(f7 fr t).bind fun p=>(cN C.E.old st.own g p).bind fun v=>(L2 C fr st r).map (v::·)
def O4:List V→V
 | [v]=>v
 |l=> .tup l
theorem sK (h:SR C st s μ F) {fr:E0} {frI:Fr} (hf:FR (t8 C st s μ F) fr frI):∀ {res:List (Nat × Option (Option Nat))} {vs:List V},L2 C fr st res=some vs→∃ vsI,cD C.E frI s res=some vsI∧d8 (t8 C st s μ F) vs vsI
 | [],vs,e=>by simp only[L2,Option.some.injEq] at e;subst e;exact ⟨[],rfl,by simp only[d8]⟩
 |(t,none)::r,vs,e=>by
  simp only[L2,Option.bind_eq_some_iff,Option.map_eq_some_iff] at e
  obtain ⟨v,h1,vs',h2,rfl⟩:=e
  obtain ⟨vI,a1,a2⟩:=hf t v h1
  obtain ⟨vsI,b1,b2⟩:=sK h hf h2
  exact ⟨vI::vsI,by simp[cD,a1,b1],by simp only[d8];exact ⟨_,_,rfl,a2,b2⟩⟩
 |(t,some g)::r,vs,e=>by
  simp only[L2,Option.bind_eq_some_iff,Option.map_eq_some_iff] at e
  obtain ⟨p,h1,v,h3,vs',h2,rfl⟩:=e
  obtain ⟨pI,a1,a2⟩:=hf t p h1
  obtain ⟨vI,c1,c2⟩:=AW h.hr a2 h3
  obtain ⟨vsI,b1,b2⟩:=sK h hf h2
  refine ⟨vI::vsI,?_,by simp only[d8];exact ⟨_,_,rfl,c2,b2⟩⟩
  simp only[cD,a1,Option.bind_some]
  split at c1
  ·simp only[c1,Option.bind_some,b1,Option.map_some]
  ·cases c1
theorem aJ4 {w:VW} {vs:List V} {vsI:List Value} (h:d8 w vs vsI):b9 w (O4 vs) (G8 vsI):=by
 rcases vs with _|⟨v,_|⟨u,r⟩⟩
 ·simp only[d8] at h;subst h;simp only[O4,G8,b9,d8];exact ⟨[],rfl,rfl⟩
 ·simp only[d8] at h
  obtain ⟨x,_,rfl,h1,rfl⟩:=h
  exact h1
 ·have h':=h
  simp only[d8] at h
  obtain ⟨x,_,rfl,h1,y,_,rfl,h2,h3⟩:=h
  simp only[O4,G8,b9]
  exact ⟨_,rfl,h'⟩
def qL (C:D0) (res:List (Nat × Option (Option Nat))) (v:V) (st1:l9):B5
 | .exit _,_,_=>False
 |_,fr,st=>∃ vs,L2 C fr st res=some vs∧M9 C [(0,O4 vs)] st [(0,v)] st1
theorem vP {af:n7} {xs:List V} {xsI:List Value} {v:V} {st1:l9} (hlen:xs.length≤af.n) (h:KK C af.code (R8 0 xs) st (qL C af.res v st1)) (hr:Rl C st (R8 0 xs) s (dM 0 xsI)) (hx:xsI.length=xs.length):
  ∃ vI s',body C.E af xsI s=some (vI,s')∧∃ μ F,SR C st1 s' μ F∧b9 (t8 C st1 s' μ F) v vI∧VW.le C.w0 (t8 C st1 s' μ F)∧s'.prot=C.p0∧∀ b,F b→C.w0.F b∨C.p0≤b:=by
 obtain ⟨ex,frI,s',e,fr',st',h1,h2⟩:=nW af.code h (dM 0 xsI) s hr
 have key:(∃ vs,L2 C fr' st' af.res=some vs∧M9 C [(0,O4 vs)] st' [(0,v)] st1)→∃ vI,cD C.E frI s' af.res=some vI∧∃ μ F,SR C st1 s' μ F∧b9 (t8 C st1 s' μ F) v (G8 vI)∧VW.le C.w0 (t8 C st1 s' μ F)∧s'.prot=C.p0∧∀ b,F b→C.w0.F b∨C.p0≤b:=by
  rintro ⟨vs,hv,hw⟩
  obtain ⟨μ,F,g1,g2,g3,g4,g5⟩:=h1
  obtain ⟨vsI,k1,k2⟩:=sK g1 g2 hv
  have hfr:FR (t8 C st' s' μ F) [(0,O4 vs)] [(0,G8 vsI)]:=fun t u e=>by
   rw[j9] at e
   split at e
   ·rename_i ht
    cases e
    exact ⟨_,by rw[H4,if_pos ht],aJ4 k2⟩
   ·cases e
  obtain ⟨μ',F',q1,q2,q3,q4,q5⟩:=hw s' [(0,G8 vsI)] ⟨μ,F,g1,hfr,g3,g4,g5⟩
  obtain ⟨vI,r1,r2⟩:=q2 0 v (by rw[j9,if_pos rfl])
  rw[H4,if_pos rfl] at r1
  cases r1
  exact ⟨vsI,k1,μ',F',q1,r2,q3,q4,q5⟩
 have fin:(∃ vI,cD C.E frI s' af.res=some vI∧∃ μ F,SR C st1 s' μ F∧b9 (t8 C st1 s' μ F) v (G8 vI)∧VW.le C.w0 (t8 C st1 s' μ F)∧s'.prot=C.p0∧∀ b,F b→C.w0.F b∨C.p0≤b)→(match ex with| .exit _=>False|_=>True)→
   ∃ vI s',body C.E af xsI s=some (vI,s')∧∃ μ F,SR C st1 s' μ F∧b9 (t8 C st1 s' μ F) v vI∧VW.le C.w0 (t8 C st1 s' μ F)∧s'.prot=C.p0∧∀ b,F b→C.w0.F b∨C.p0≤b:=by
  rintro ⟨vI,k1,k2⟩ hx2
  refine ⟨G8 vI,s',?_,k2⟩
  unfold body
  rw[if_pos (by rw[Nat.ble_eq];omega),e]
  cases ex with
  |exit i=>exact hx2.elim
  |normal=>simp[k1]
  |ret=>simp[k1]
 cases ex with
 |exit i=>exact h2.elim
 |normal=>exact fin (key h2) trivial
 |ret=>exact fin (key h2) trivial
end
section
variable {old:Nat→Nat→Option Value} {rounds:Nat} {fns:FuncId→Option n7} {prims:FuncId→List Value→St→Option (Value × List u5)} {n:Nat} {f:FuncId} {xs:List V} {v:V} {st1:l9} {af:n7}
theorem fA:∀ n,(x6 old rounds fns prims n).old=old
 |0=>rfl
 |n+1=>rfl
theorem bO (n m:Nat):m8 (x6 old rounds fns prims n)=m8 (x6 old rounds fns prims m):=by
 funext h a
 rw[HH,HH,fA,fA]
theorem SC (hf:fns f=some af) (hpu:af.pure=true) (hp:∀ xs s,prims f xs s=none) (hlen:xs.length≤af.n) (hold:eP (x6 old rounds fns prims 0)) (hR:bM st1.own v) (hro:st1.ro=0)
  (h:∀ C:D0,C.E=x6 old rounds fns prims n→C.w0.nx=0→KK C af.code (R8 0 xs) ⟨[],0,0⟩ (qL C af.res v st1)):k8 (x6 old rounds fns prims (n+1)) f xs v st1:=by
 intro s F xsI hF hb hx
 let C:D0:=C1 (x6 old rounds fns prims n) s (YQ (x6 old rounds fns prims n) s.heap F)
 have hs:SR C ⟨[],0,0⟩ ⟨s.heap,s.next,s.next⟩ (fun _=>none) F:=SR.start hF hb
 have hx':d8 (t8 C ⟨[],0,0⟩ ⟨s.heap,s.next,s.next⟩ (fun _=>none) F) xs xsI:=by
  show d8 ⟨m8 (x6 old rounds fns prims n) s.heap,F,fun _=>none,0⟩ xs xsI
  rw[bO n (n+1)];exact hx
 obtain ⟨vI,sf,hbody,μ,G,g1,g2,g3,g4,g5⟩:=vP (C:=C) (s:=⟨s.heap,s.next,s.next⟩) hlen (h C rfl rfl) ⟨_,F,hs,eK 0 hx',VW.le.refl _,rfl,fun b hb=> .inl hb⟩ hx.length
 have hU:∀ b,b<C.n0→C.U b:=fun b hb=>hb
 have hold':eP C.E:=fun b o v e=>by
  refine hold b o v ?_
  have:C.E.old=old:=fA n
  rw[this] at e;exact e
 obtain ⟨v2,bs,μ2,G2,k1,k2,k3,k4,k5,k6⟩:=cB1 g1 hU rfl hro g4 hold' hF g5 g3.F hb g2 hR
 refine ⟨v2,bs,μ2,G2,?_,k2.env (bO _ _) rfl rfl rfl,?_,k4,k5,fun hfl=>k6 ((oO g2 hfl).1 _)⟩
 ·simp only[N4,hp,hf,Option.bind_some,hpu,if_true]
  rw[show body (x6 old rounds fns prims n) af xsI ⟨s.heap,s.next,s.next⟩=some (vI,sf) from hbody]
  exact k1
 ·show b9 ⟨m8 (x6 old rounds fns prims (n+1)) _,G2,μ2,st1.next⟩ v v2
  rw[bO (n+1) n];exact k3
theorem aJ2 {st0:l9} (hf:fns f=some af) (hpu:af.pure=true) (hp:∀ xs s,prims f xs s=none) (hlen:xs.length≤af.n) (hfl:w7 v=true)
  (h:∀ C:D0,C.E=x6 old rounds fns prims n→C.w0.nx=st0.next→∃ st1,KK C af.code (R8 0 xs) ⟨st0.own,st0.next,st0.next⟩ (qL C af.res v st1)):H1 (x6 old rounds fns prims (n+1)) f st0 xs v:=by
 intro s μ F xsI w0 hs hx
 let C:D0:=⟨x6 old rounds fns prims n,s.next,s.heap,(· <s.next),⟨m8 (x6 old rounds fns prims n) s.heap,F,μ,st0.next⟩,s.next⟩
 have hs':SR C ⟨st0.own,st0.next,st0.next⟩ ⟨s.heap,s.next,s.next⟩ μ F:=hs.env (bO _ _) rfl rfl rfl
 obtain ⟨st1,h⟩:=h C rfl rfl
 have hx':d8 (t8 C ⟨st0.own,st0.next,st0.next⟩ ⟨s.heap,s.next,s.next⟩ μ F) xs xsI:=by
  show d8 ⟨m8 (x6 old rounds fns prims n) s.heap,F,μ,st0.next⟩ xs xsI
  rw[bO n (n+1)];exact hx
 obtain ⟨vI,sf,hbody,μ',G,g1,g2,g3,g4,g5⟩:=vP (C:=C) (s:=⟨s.heap,s.next,s.next⟩) hlen h ⟨_,F,hs',eK 0 hx',VW.le.refl _,rfl,fun b hb=> .inl hb⟩ hx.length
 obtain ⟨q1,q2⟩:=oO g2 hfl
 refine ⟨vI,?_,q2⟩
 simp only[N4,hp,hf,Option.bind_some,hpu,if_true]
 rw[show body (x6 old rounds fns prims n) af xsI ⟨s.heap,s.next,s.next⟩=some (vI,sf) from hbody]
 simp only[Option.bind_some]
 unfold gc
 rw[q1]
end
mutual
def w5 (H:E7):V→Option V
 | .sc x=>some (.sc x)
 | .sl s n l=>some (.sl s n l)
 | .slk s n c l=>some (.slk s n c l)
 | .dp l o=>some (.dp l o)
 | .ref o k n c=>(dH H (.ref o k n c)).map dv
 | .gr s o n=>(dH H (.gr s o n)).map dv
 | .agg l=>(J7 H l).map .agg
 | .tup l=>(J7 H l).map .tup
 | .fn f a b=>(J7 H a).bind fun a=>(J7 H b).map fun b=> .fn f a b
 | .ifc t v=>(w5 H v).map (.ifc t)
 | .ptr _ _=>none
 | .dead=>none
 | .tok _=>none
def J7 (H:E7):List V→Option (List V)
 | []=>some []
 |v::r=>(w5 H v).bind fun v=>(J7 H r).map (v::·)
end
mutual
def dJ:V→List Nat
 | .ref o _ _ _=> [o]
 | .gr _ o _=> [o]
 | .agg l=>aS l
 | .tup l=>aS l
 | .fn _ a b=>aS a++aS b
 | .ifc _ v=>dJ v
 |_=> []
def aS:List V→List Nat
 | []=> []
 |v::r=>dJ v++aS r
end
mutual
def GS (k:Nat):V→V
 | .ref o i n c=> .ref (k+o) i n c
 | .gr s o n=> .gr s (k+o) n
 | .ptr o i=> .ptr (k+o) i
 | .tok o=> .tok (k+o)
 | .agg l=> .agg (KD k l)
 | .tup l=> .tup (KD k l)
 | .fn f a b=> .fn f (KD k a) (KD k b)
 | .ifc t v=> .ifc t (GS k v)
 |v=>v
def KD (k:Nat):List V→List V
 | []=> []
 |v::r=>GS k v::KD k r
end
def shO (k:Nat):Obj→Obj
 | .box t e l=> .box t e (KD k l)
 |o=>o
def KP (k:Nat):E7→E7
 | []=> []
 |(j,o)::r=>(k+j,shO k o)::KP k r
section
variable {C:D0} {st:l9} {s:St} {μ:Nat→Option Nat} {F:Nat→Prop} {E:E6} {H:E7} {heap:j8} {w w':VW}
mutual
theorem u7.sw (h1:w'.ld=w.ld) (h2:w'.F=w.F):∀ {d:D} {v:Value},u7 w d v→u7 w' d v
 | .sc x,v,r=>by simp only[u7] at r ⊢;exact r
 | .sl s n l,v,r=>by
  simp only[u7] at r ⊢
  rcases r with ⟨a,c,e,i,k,r,q⟩|r
  ·exact .inl ⟨a,c,e,by unfold VW.inF at i ⊢;rw[h2];exact i,k,u9.sw h1 h2 r,q⟩
  ·exact .inr r
theorem u9.sw (h1:w'.ld=w.ld) (h2:w'.F=w.F):∀ {l:List D} {a:Addr},u9 w l a→u9 w' l a
 | [],a,_=>by simp only[u9]
 |d::r,a,q=>by
  simp only[u9] at q ⊢
  obtain ⟨⟨v,e1,e2⟩,h3⟩:=q
  exact ⟨⟨v,by rw[h1];exact e1,u7.sw h1 h2 e2⟩,u9.sw h1 h2 h3⟩
end
theorem iZ (h2:w'.F=w.F) {a:Addr} (i:w.inF a):w'.inF a:=by unfold VW.inF at i ⊢;rw[h2];exact i
mutual
theorem JU (hr:HR E H heap w) {w1:VW} (hle:VW.le w w1) {w2:VW} (h1:w2.ld=w1.ld) (h2:w2.F=w1.F):∀ {v v':V} {vI:Value},b9 w v vI→w5 H v=some v'→Fin w w1 (dJ v)→LdX heap w w1 (dJ v)→b9 w2 v' vI
 | .sc x,v',vI,h,e,_,_=>by simp only[w5,Option.some.injEq] at e;subst e;simp only[b9] at h ⊢;exact h
 | .sl s n l,v',vI,h,e,_,_=>by
  simp only[w5,Option.some.injEq] at e;subst e
  simp only[b9] at h ⊢
  exact (h.mono hle).sw h1 h2
 | .slk s n c l,v',vI,h,e,_,_=>by
  simp only[w5,Option.some.injEq] at e;subst e
  have:=b9.mono hle h
  simp only[b9] at this ⊢
  refine ⟨this.1,this.2.1,this.2.2.imp ?_ id⟩
  rintro ⟨a,e,i,r⟩
  exact ⟨a,e,iZ h2 i,r.sw h1 h2⟩
 | .dp l o,v',vI,h,e,_,_=>by
  simp only[w5,Option.some.injEq] at e;subst e
  have:=b9.mono hle h
  simp only[b9] at this ⊢
  obtain ⟨a,e,i,r⟩:=this
  exact ⟨a,e,iZ h2 i,r.sw h1 h2⟩
 | .ref o k n c,v',vI,h,e,hF,hL=>by
  simp only[w5,Option.map_eq_some_iff] at e
  obtain ⟨d,hd,rfl⟩:=e
  exact qX ((VP hr hle h hd hF hL).1.sw h1 h2)
 | .gr s o n,v',vI,h,e,hF,hL=>by
  simp only[w5,Option.map_eq_some_iff] at e
  obtain ⟨d,hd,rfl⟩:=e
  exact qX ((VP hr hle h hd hF hL).1.sw h1 h2)
 | .agg l,v',vI,h,e,hF,hL=>by
  simp only[w5,Option.map_eq_some_iff] at e
  obtain ⟨l',hl,rfl⟩:=e
  simp only[b9] at h ⊢
  obtain ⟨vs,rfl,h⟩:=h
  exact ⟨vs,rfl,eE hr hle h1 h2 h hl hF hL⟩
 | .tup l,v',vI,h,e,hF,hL=>by
  simp only[w5,Option.map_eq_some_iff] at e
  obtain ⟨l',hl,rfl⟩:=e
  simp only[b9] at h ⊢
  obtain ⟨vs,rfl,h⟩:=h
  exact ⟨vs,rfl,eE hr hle h1 h2 h hl hF hL⟩
 | .fn f a b,v',vI,h,e,hF,hL=>by
  simp only[w5,Option.bind_eq_some_iff,Option.map_eq_some_iff] at e
  obtain ⟨a',ha,b',hb,rfl⟩:=e
  simp only[b9] at h ⊢
  obtain ⟨as,bs,rfl,q1,q2⟩:=h
  exact ⟨as,bs,rfl,eE hr hle h1 h2 q1 ha (fun o ho=>hF o (by simp[dJ,ho])) (fun o ho=>hL o (by simp[dJ,ho])),eE hr hle h1 h2 q2 hb (fun o ho=>hF o (by simp[dJ,ho])) (fun o ho=>hL o (by simp[dJ,ho]))⟩
 | .ifc t u,v',vI,h,e,hF,hL=>by
  simp only[w5,Option.map_eq_some_iff] at e
  obtain ⟨u',hu,rfl⟩:=e
  simp only[b9] at h ⊢
  obtain ⟨x,rfl,h⟩:=h
  exact ⟨x,rfl,JU hr hle h1 h2 h hu hF hL⟩
 | .ptr _ _,v',vI,h,e,_,_=>by simp[w5] at e
 | .dead,v',vI,h,e,_,_=>by simp[w5] at e
 | .tok _,v',vI,h,e,_,_=>by simp[w5] at e
theorem eE (hr:HR E H heap w) {w1:VW} (hle:VW.le w w1) {w2:VW} (h1:w2.ld=w1.ld) (h2:w2.F=w1.F):∀ {l l':List V} {vs:List Value},d8 w l vs→J7 H l=some l'→Fin w w1 (aS l)→LdX heap w w1 (aS l)→d8 w2 l' vs
 | [],l',vs,h,e,_,_=>by simp only[J7,Option.some.injEq] at e;subst e;simp only[d8] at h ⊢;exact h
 |v::r,l',vs,h,e,hF,hL=>by
  simp only[J7,Option.bind_eq_some_iff,Option.map_eq_some_iff] at e
  obtain ⟨v',hv,r',hr',rfl⟩:=e
  simp only[d8] at h ⊢
  obtain ⟨u,us,rfl,q1,q2⟩:=h
  exact ⟨u,us,rfl,JU hr hle h1 h2 q1 hv (fun o ho=>hF o (by simp[aS,ho])) (fun o ho=>hL o (by simp[aS,ho])),eE hr hle h1 h2 q2 hr' (fun o ho=>hF o (by simp[aS,ho])) (fun o ho=>hL o (by simp[aS,ho]))⟩
end
theorem ZY {v:V} {d:D} (h:dH H v=some d):∀ o ∈ wX v,∃ ob,f7 H o=some ob∧ob.froz.fz=true:=by
 intro o ho
 cases v with
 |ref o' k n c=>
  simp only[wX,List.mem_singleton] at ho;subst ho
  simp only[dH] at h
  split at h
  ·rename_i e;exact ⟨_,e,rfl⟩
  ·cases h
 |gr s o' n=>
  simp only[wX,List.mem_singleton] at ho;subst ho
  simp only[dH] at h
  split at h
  ·rename_i e;exact ⟨_,e,rfl⟩
  ·cases h
 |_=>simp[wX] at ho
mutual
theorem QR:∀ {v v':V},w5 H v=some v'→∀ o ∈ dJ v,∃ ob,f7 H o=some ob∧ob.froz.fz=true
 | .ref o' k n c,v',e,o,ho=>by
  simp only[w5,Option.map_eq_some_iff] at e
  obtain ⟨d,hd,rfl⟩:=e
  exact ZY hd o (by simpa [dJ,wX] using ho)
 | .gr s o' n,v',e,o,ho=>by
  simp only[w5,Option.map_eq_some_iff] at e
  obtain ⟨d,hd,rfl⟩:=e
  exact ZY hd o (by simpa [dJ,wX] using ho)
 | .agg l,v',e,o,ho=>by
  simp only[w5,Option.map_eq_some_iff] at e
  obtain ⟨l',hl,rfl⟩:=e
  exact bJ hl o (by simpa only[dJ] using ho)
 | .tup l,v',e,o,ho=>by
  simp only[w5,Option.map_eq_some_iff] at e
  obtain ⟨l',hl,rfl⟩:=e
  exact bJ hl o (by simpa only[dJ] using ho)
 | .fn f a b,v',e,o,ho=>by
  simp only[w5,Option.bind_eq_some_iff,Option.map_eq_some_iff] at e
  obtain ⟨a',ha,b',hb,rfl⟩:=e
  simp only[dJ,List.mem_append] at ho
  rcases ho with ho|ho
  ·exact bJ ha o ho
  ·exact bJ hb o ho
 | .ifc t u,v',e,o,ho=>by
  simp only[w5,Option.map_eq_some_iff] at e
  obtain ⟨u',hu,rfl⟩:=e
  exact QR hu o (by simpa only[dJ] using ho)
 | .sc _,_,_,o,ho=>by simp[dJ] at ho
 | .sl _ _ _,_,_,o,ho=>by simp[dJ] at ho
 | .slk _ _ _ _,_,_,o,ho=>by simp[dJ] at ho
 | .dp _ _,_,_,o,ho=>by simp[dJ] at ho
 | .ptr _ _,_,_,o,ho=>by simp[dJ] at ho
 | .dead,_,_,o,ho=>by simp[dJ] at ho
 | .tok _,_,_,o,ho=>by simp[dJ] at ho
theorem bJ:∀ {l l':List V},J7 H l=some l'→∀ o ∈ aS l,∃ ob,f7 H o=some ob∧ob.froz.fz=true
 | [],_,_,o,ho=>by simp[aS] at ho
 |v::r,l',e,o,ho=>by
  simp only[J7,Option.bind_eq_some_iff,Option.map_eq_some_iff] at e
  obtain ⟨v',hv,r',hr',rfl⟩:=e
  simp only[aS,List.mem_append] at ho
  rcases ho with ho|ho
  ·exact QR hv o ho
  ·exact bJ hr' o ho
end
theorem SR.snaps (h:SR C st s μ F) {xs xs':List V} {xsI:List Value} (hx:d8 (t8 C st s μ F) xs xsI) (hs:J7 st.own xs=some xs'):ClF s.heap s.next (aP μ F (aS xs))∧d8 (YQ C.E s.heap (aP μ F (aS xs))) xs' xsI:=by
 have hle:VW.le (t8 C st s μ F) ⟨m8 C.E s.heap,aP μ F (aS xs),μ,st.next⟩:=⟨fun _ _=>rfl,fun b hb=> .inl hb,Nat.le_refl _,fun _ _ _ e=>e⟩
 refine ⟨fun b hb=>?_,eE (w2:=YQ C.E s.heap (aP μ F (aS xs))) h.hr hle rfl rfl hx hs (fun o ho b e=> .inr ⟨o,ho,e⟩) (fun o ho b e k sp blk hb=>kH (E:=C.E) hb)⟩
 rcases hb with hb|⟨o,ho,e⟩
 ·refine ⟨(h.lt b hb).1,?_⟩
  obtain ⟨blk,c1,c2⟩:=h.cl b hb
  exact ⟨blk,c1,fun n i hi=> .inl (c2 n i hi)⟩
 ·refine ⟨(h.dom o b e).1,?_⟩
  obtain ⟨ob,q1,q2⟩:=bJ hs o ho
  obtain ⟨blk,c1,c2⟩:=h.row_cl q1 q2 e
  exact ⟨blk,c1,fun n i hi=> .inl (c2 n i hi)⟩
theorem SR.enter (h:SR C st s μ F) (w0:VW):SR (C1 C.E s w0) ⟨st.own,st.next,st.next⟩ ⟨s.heap,s.next,s.next⟩ μ F:=
 ⟨h.obj,fun o ob b e e2 hz=>⟨(h.wr o ob b e e2 hz).1,fun hro=>by have:=(h.own o ob e).1;simp only at hro;omega⟩,h.fz,h.inj,h.dom,h.lt,h.cl,fun b hb=>⟨hb,rfl⟩,Nat.le_refl _,h.own,h.hb,Nat.le_refl _,fun o b e hro=>by have:=(h.dom o b e).2.1;simp only at hro;omega⟩
theorem k8.flat {f:FuncId} {xs xs':List V} {v:V} {st1:l9} (h:k8 E f xs' v st1) (hf:w7 v=true) (hs:J7 st.own xs=some xs'):H1 E f st xs v:=by
 intro s μ F xsI w0 hsr hx
 obtain ⟨a1,a2⟩:=hsr.snaps hx hs
 obtain ⟨vI,bs,μ2,G,e,_,hv,_,_,hb⟩:=h s _ xsI a1 hsr.hb a2
 rw[hb hf] at e
 exact ⟨vI,e,(oO hv hf).2⟩
theorem a6 {f:FuncId} {xs:List V} {v:V} {Q:V→l9→Prop} (h:H1 C.E f st xs v) (hq:Q v st):W3 C f xs st Q:=by
 refine ⟨v,st,hq,fun s μ F xsI hsr hx hp=>?_⟩
 obtain ⟨vI,e,hv⟩:=h s μ F xsI C.w0 (hsr.enter C.w0) hx
 exact ⟨vI,s,μ,F,by simp only[callI,e];rfl,hsr,hv _,VW.le.refl _,rfl,Nat.le_refl _,fun b hb=> .inl hb⟩
theorem L5 {f:FuncId} {xs:List V} {v:V} {nx:Nat} {Q:V→Prop} {R:V→Obj→Prop} (h:H1 C.E f ⟨H,nx,nx⟩ xs v) (hq:Q v):BY C f xs H nx Q R:= .inl ⟨v,h,hq⟩
theorem SR.freeze (h:SR C st s μ F) {fz:List Nat} (hrow:E4 st.ro st.own fz=true):SR C ⟨C4 fz st.own,st.next,st.ro⟩ s μ (aP μ F fz)∧VW.le (t8 C st s μ F) (t8 C ⟨C4 fz st.own,st.next,st.ro⟩ s μ (aP μ F fz)):=by
 have hle:VW.le (t8 C st s μ F) (t8 C ⟨C4 fz st.own,st.next,st.ro⟩ s μ (aP μ F fz)):=⟨fun _ _=>rfl,fun b hb=> .inl hb,Nat.le_refl _,fun _ _ _ e=>e⟩
 have hown:∀ i obj,f7 (C4 fz st.own) i=some obj→∃ ob0,f7 st.own i=some ob0∧obj=if l7 i fz then ob0.froz else ob0:=fun i obj e=>by
  rw[T0] at e
  simp only[Option.map_eq_some_iff] at e
  obtain ⟨ob0,e1,e2⟩:=e
  exact ⟨ob0,e1,e2.symm⟩
 refine ⟨⟨?_,?_,?_,h.inj,?_,?_,?_,h.un,h.n0,?_,h.hb,h.pr,h.pb⟩,hle⟩
 ·intro i obj e hn
  obtain ⟨ob0,e1,rfl⟩:=hown i obj e
  have hn0:ob0.none=false:=by split at hn;(rw[bF] at hn;exact hn);exact hn
  obtain ⟨c,blk0,m1,m2,m3⟩:=h.obj i ob0 e1 hn0
  refine ⟨c,blk0,m1,m2,?_⟩
  split
  ·exact wW (m3.mono hle)
  ·exact m3.mono hle
 ·intro i obj c e e3 hzz
  obtain ⟨ob0,e1,rfl⟩:=hown i obj e
  by_cases hf:l7 i fz=true
  ·rw[if_pos hf] at hzz
   obtain ⟨ob1,q1,q2,_⟩:=T9 hrow i ((j4 _ _).1 hf)
   rw[e1] at q1;cases q1
   rw[hzz] at q2;cases q2
  ·rw[if_neg hf] at hzz
   obtain ⟨w2,w3⟩:=h.wr i ob0 c e1 e3 hzz
   refine ⟨?_,w3⟩
   rintro (hb|⟨j,hj,ej⟩)
   ·exact w2 hb
   ·have:=h.inj i j c e3 ej
    subst this
    exact hf ((j4 _ _).2 hj)
 ·intro i obj c e e3 hzz
  obtain ⟨ob0,e1,rfl⟩:=hown i obj e
  by_cases hf:l7 i fz=true
  ·exact .inr ⟨i,(j4 _ _).1 hf,e3⟩
  ·rw[if_neg hf] at hzz
   exact .inl (h.fz i ob0 c e1 e3 hzz)
 ·intro i c e
  obtain ⟨d1,d2,ob0,d3,d4⟩:=h.dom i c e
  refine ⟨d1,d2,(if l7 i fz then ob0.froz else ob0),by rw[T0,d3];rfl,?_⟩
  split
  ·rw[bF];exact d4
  ·exact d4
 ·rintro c (hc|⟨i,_,e⟩)
  ·exact h.lt c hc
  ·obtain ⟨d1,_,ob0,d3,d4⟩:=h.dom i c e
   obtain ⟨b',blk0,m1,m2,_⟩:=h.obj i ob0 d3 d4
   rw[e] at m1;cases m1
   exact ⟨d1,blk0,m2⟩
 ·rintro c (hc|⟨i,hi,e⟩)
  ·obtain ⟨blk0,c1,c2⟩:=h.cl c hc
   exact ⟨blk0,c1,fun n j hj=> .inl (c2 n j hj)⟩
  ·obtain ⟨ob0,q1,q2,_⟩:=T9 hrow i hi
   obtain ⟨blk0,c1,c2⟩:=h.row_cl q1 q2 e
   exact ⟨blk0,c1,fun n j hj=> .inl (c2 n j hj)⟩
 ·intro i obj e
  obtain ⟨ob0,e1,rfl⟩:=hown i obj e
  obtain ⟨o1,o2⟩:=h.own i ob0 e1
  refine ⟨o1,?_⟩
  split
  ·rw[IJ];exact o2
  ·exact o2
mutual
theorem KE {k:Nat} {w w':VW} (h1:w'.ld=w.ld) (h2:w'.F=w.F) (h3:k+w.nx≤w'.nx) (h4:∀ o b,w'.μ (k+o)=some b→w.μ o=some b):∀ {v:V} {vI:Value},b9 w v vI→b9 w' (GS k v) vI
 | .sc x,vI,h=>by simp only[GS,b9] at h ⊢;exact h
 | .sl s n l,vI,h=>by simp only[GS,b9] at h ⊢;exact h.sw h1 h2
 | .slk s n c l,vI,h=>by
  simp only[GS,b9] at h ⊢
  refine ⟨h.1,h.2.1,h.2.2.imp ?_ id⟩
  rintro ⟨a,e,i,r⟩
  exact ⟨a,e,iZ h2 i,r.sw h1 h2⟩
 | .dp l o,vI,h=>by
  simp only[GS,b9] at h ⊢
  obtain ⟨a,e,i,r⟩:=h
  exact ⟨a,e,iZ h2 i,r.sw h1 h2⟩
 | .ref o i n c,vI,h=>by
  simp only[GS,b9] at h ⊢
  obtain ⟨q1,q2,b',e,q3⟩:=h
  exact ⟨by omega,q2,b',e,fun b hb=>q3 b (h4 o b hb)⟩
 | .gr s o n,vI,h=>by
  simp only[GS,b9] at h ⊢
  obtain ⟨q1,q2⟩:=h
  refine ⟨by omega,q2.imp (And.imp id (Or.imp id (And.imp id ?_))) ?_⟩
  ·rintro ⟨a,c,e,i⟩
   exact ⟨a,c,e,iZ h2 i⟩
  ·rintro ⟨hn,b',e,q3⟩
   exact ⟨hn,b',e,fun b hb=>q3 b (h4 o b hb)⟩
 | .ptr o i,vI,h=>by
  simp only[GS,b9] at h ⊢
  obtain ⟨q1,b',e,q3⟩:=h
  exact ⟨by omega,b',e,fun b hb=>q3 b (h4 o b hb)⟩
 | .agg l,vI,h=>by
  simp only[GS,b9] at h ⊢
  obtain ⟨vs,e,h⟩:=h
  exact ⟨vs,e,eL h1 h2 h3 h4 h⟩
 | .tup l,vI,h=>by
  simp only[GS,b9] at h ⊢
  obtain ⟨vs,e,h⟩:=h
  exact ⟨vs,e,eL h1 h2 h3 h4 h⟩
 | .fn f a b,vI,h=>by
  simp only[GS,b9] at h ⊢
  obtain ⟨as,bs,e,q1,q2⟩:=h
  exact ⟨as,bs,e,eL h1 h2 h3 h4 q1,eL h1 h2 h3 h4 q2⟩
 | .ifc t u,vI,h=>by
  simp only[GS,b9] at h ⊢
  obtain ⟨x,e,h⟩:=h
  exact ⟨x,e,KE h1 h2 h3 h4 h⟩
 | .dead,vI,h=>by simp only[GS,b9]
 | .tok o,vI,h=>by
  simp only[GS,b9] at h ⊢
  obtain ⟨q1,b',e,q3⟩:=h
  exact ⟨by omega,b',e,fun b hb=>q3 b (h4 o b hb)⟩
theorem eL {k:Nat} {w w':VW} (h1:w'.ld=w.ld) (h2:w'.F=w.F) (h3:k+w.nx≤w'.nx) (h4:∀ o b,w'.μ (k+o)=some b→w.μ o=some b):∀ {l:List V} {vs:List Value},d8 w l vs→d8 w' (KD k l) vs
 | [],vs,h=>by simp only[KD,d8] at h ⊢;exact h
 |v::r,vs,h=>by
  simp only[KD,d8] at h ⊢
  obtain ⟨u,us,e,q1,q2⟩:=h
  exact ⟨u,us,e,KE h1 h2 h3 h4 q1,eL h1 h2 h3 h4 q2⟩
end
theorem JS (k:Nat):∀ (H:E7) (o:Nat),f7 (KP k H) (k+o)=(f7 H o).map (shO k)
 | [],o=>rfl
 |(j,ob)::r,o=>by
  simp only[KP]
  rw[j9,j9,JS k r o]
  by_cases h:o=j
  ·subst h;rw[if_pos rfl,if_pos rfl];rfl
  ·rw[if_neg h,if_neg (by omega)]
theorem JT (k:Nat):∀ (H:E7) (o:Nat),o<k→f7 (KP k H) o=none
 | [],o,_=>rfl
 |(j,ob)::r,o,h=>by
  simp only[KP]
  rw[j9,if_neg (by omega)]
  exact JT k r o h
theorem oD {α:Type}:∀ (a b:List (Nat × α)) (i:Nat),f7 (a++b) i=match f7 a i with|some x=>some x|none=>f7 b i
 | [],b,i=>rfl
 |(j,v)::r,b,i=>by
  simp only[List.cons_append]
  rw[j9,j9]
  split
  ·rfl
  ·exact oD r b i
theorem QQ (k:Nat) (o:Obj):(shO k o).none=o.none:=by
 cases o with
 |gro t e z l=>cases l<;>rfl
 |_=>rfl
theorem aY5 (k:Nat) (o:Obj):(shO k o).fz=o.fz:=by cases o<;>rfl
theorem bV6 (k:Nat) (o:Obj):(shO k o).ok=o.ok:=by cases o<;>rfl
theorem SR.join (h:SR C st s μ F) {st1:l9} {bs:List u5} {μ2:Nat→Option Nat} {G:Nat→Prop} {w0:VW} (h1:SR (C1 C.E s w0) st1 ⟨x4 s.heap s.next bs,s.next+bs.length,s.next⟩ μ2 G) (hro:st1.ro=0) (hG:∀ b,G b→F b∨s.next≤b) (hFG:∀ b,F b→G b):
  ∃ μ',SR C ⟨KP st.next st1.own++st.own,st.next+st1.next,st.ro⟩ (s.push bs) μ' G∧VW.le (t8 C st s μ F) (t8 C ⟨KP st.next st1.own++st.own,st.next+st1.next,st.ro⟩ (s.push bs) μ' G)∧
   ∀ {v:V} {vI:Value},b9 (t8 (C1 C.E s w0) st1 ⟨x4 s.heap s.next bs,s.next+bs.length,s.next⟩ μ2 G) v vI→b9 (t8 C ⟨KP st.next st1.own++st.own,st.next+st1.next,st.ro⟩ (s.push bs) μ' G) (GS st.next v) vI:=by
 let μ':Nat→Option Nat:=fun o=>if o<st.next then μ o else μ2 (o - st.next)
 have hlow:∀ o b,o<st.next→μ' o=some b→μ o=some b:=fun o b ho e=>by simp only[μ'] at e;rw[if_pos ho] at e;exact e
 have hhi:∀ o b,μ' (st.next+o)=some b→μ2 o=some b:=fun o b e=>by
  simp only[μ'] at e;rw[if_neg (by omega),show st.next+o - st.next=o by omega] at e;exact e
 have hmu:∀ o b,μ' o=some b→(o<st.next∧μ o=some b∧b<s.next)∨(∃ o1,o=st.next+o1∧μ2 o1=some b∧s.next≤b):=fun o b e=>by
  by_cases ho:o<st.next
  ·exact .inl ⟨ho,hlow o b ho e,(h.dom o b (hlow o b ho e)).1⟩
  ·refine .inr ⟨o - st.next,by omega,?_,?_⟩
   ·exact hhi _ b (by rw[show st.next+(o - st.next)=o by omega];exact e)
   ·exact h1.pb (o - st.next) b (hhi _ b (by rw[show st.next+(o - st.next)=o by omega];exact e)) (by rw[hro];exact Nat.zero_le _)
 have d9:∀ b,b<s.next→d9 (x4 s.heap s.next bs) b=d9 s.heap b:=fun b hb=>by rw[w8,if_neg (by omega)]
 have hFl:∀ b,F b→b<s.next:=fun b hb=>(h.lt b hb).1
 have hle:VW.le (t8 C st s μ F) (t8 C ⟨KP st.next st1.own++st.own,st.next+st1.next,st.ro⟩ (s.push bs) μ' G):=by
  refine ⟨fun a i=>?_,hFG,Nat.le_add_right _ _,fun o b ho e=>hlow o b ho e⟩
  obtain ⟨b,o,sp⟩:=a
  cases sp with
  |none=>rfl
  |some k=>simp only[m8,St.push];rw[d9 b (hFl b i)]
 have hsh:∀ {v:V} {vI:Value},b9 (t8 (C1 C.E s w0) st1 ⟨x4 s.heap s.next bs,s.next+bs.length,s.next⟩ μ2 G) v vI→b9 (t8 C ⟨KP st.next st1.own++st.own,st.next+st1.next,st.ro⟩ (s.push bs) μ' G) (GS st.next v) vI:=
  fun hv=>KE (w':=t8 C ⟨KP st.next st1.own++st.own,st.next+st1.next,st.ro⟩ (s.push bs) μ' G) (k:=st.next) (w:=t8 (C1 C.E s w0) st1 ⟨x4 s.heap s.next bs,s.next+bs.length,s.next⟩ μ2 G) rfl rfl (Nat.le_refl _) hhi hv
 have hown:∀ o ob,f7 (KP st.next st1.own++st.own) o=some ob→(o<st.next∧f7 st.own o=some ob)∨(∃ o1 ob1,o=st.next+o1∧f7 st1.own o1=some ob1∧ob=shO st.next ob1):=fun o ob e=>by
  rw[oD] at e
  by_cases ho:o<st.next
  ·rw[JT _ _ _ ho] at e;exact .inl ⟨ho,e⟩
  ·have e':o=st.next+(o - st.next):=by omega
   rw[e',JS] at e
   cases ha:f7 st1.own (o - st.next) with
   |none=>
    rw[ha] at e
    simp only[Option.map_none] at e
    rw[← e'] at e
    have:=(h.own o ob e).1
    omega
   |some ob1=>rw[ha] at e;simp only[Option.map_some,Option.some.injEq] at e;exact .inr ⟨_,ob1,e',ha,e.symm⟩
 have hgl:∀ o ob,o<st.next→f7 st.own o=some ob→f7 (KP st.next st1.own++st.own) o=some ob:=fun o ob ho e=>by rw[oD,JT _ _ _ ho];exact e
 have hgh:∀ o ob,f7 st1.own o=some ob→f7 (KP st.next st1.own++st.own) (st.next+o)=some (shO st.next ob):=fun o ob e=>by rw[oD,JS,e];rfl
 refine ⟨μ',⟨?_,?_,?_,?_,?_,?_,?_,?_,?_,?_,?_,?_,?_⟩,hle,hsh⟩
 ·intro o ob e hn
  rcases hown o ob e with ⟨ho,e1⟩|⟨o1,ob1,rfl,e1,rfl⟩
  ·obtain ⟨b,blk,m1,m2,m3⟩:=h.obj o ob e1 hn
   exact ⟨b,blk,by simp only[μ'];rw[if_pos ho];exact m1,by simp only[St.push];rw[d9 b (h.dom o b m1).1];exact m2,m3.mono hle⟩
  ·rw[QQ] at hn
   obtain ⟨b,blk,m1,m2,m3⟩:=h1.obj o1 ob1 e1 hn
   refine ⟨b,blk,by simp only[μ'];rw[if_neg (by omega),show st.next+o1 - st.next=o1 by omega];exact m1,m2,?_⟩
   have hD:∀ {l:List D} {vs:List Value},j6 (t8 (C1 C.E s w0) st1 ⟨x4 s.heap s.next bs,s.next+bs.length,s.next⟩ μ2 G) l vs→j6 (t8 C ⟨KP st.next st1.own++st.own,st.next+st1.next,st.ro⟩ (s.push bs) μ' G) l vs:=by
    intro l vs hl
    exact j6.of hl.length fun i d v q1 q2=>by
     obtain ⟨v',a,b⟩:=hl.get i d q1
     rw[q2] at a;cases a
     exact u7.sw (w:=t8 (C1 C.E s w0) st1 ⟨x4 s.heap s.next bs,s.next+bs.length,s.next⟩ μ2 G) (w':=t8 C ⟨KP st.next st1.own++st.own,st.next+st1.next,st.ro⟩ (s.push bs) μ' G) rfl rfl b
   cases ob1 with
   |box t e' l=>exact ⟨m3.1,m3.2.1,m3.2.2.1,eL (w':=t8 C ⟨KP st.next st1.own++st.own,st.next+st1.next,st.ro⟩ (s.push bs) μ' G) (k:=st.next) (w:=t8 (C1 C.E s w0) st1 ⟨x4 s.heap s.next bs,s.next+bs.length,s.next⟩ μ2 G) rfl rfl (Nat.le_refl _) hhi m3.2.2.2⟩
   |row t e' g z l=>exact ⟨m3.1,m3.2.1,m3.2.2.1,hD m3.2.2.2⟩
   |gro t e' z l=>exact ⟨m3.1,m3.2.1,m3.2.2.1,hD m3.2.2.2⟩
 ·intro o ob b e e2 hz
  rcases hown o ob e with ⟨ho,e1⟩|⟨o1,ob1,rfl,e1,rfl⟩
  ·obtain ⟨q1,q2⟩:=h.wr o ob b e1 (hlow o b ho e2) hz
   refine ⟨fun hb=>?_,q2⟩
   have:=(h.dom o b (hlow o b ho e2)).1
   rcases hG b hb with hb|hb
   ·exact q1 hb
   ·omega
  ·rw[aY5] at hz
   have e3:=hhi o1 b e2
   have hb:=h1.pb o1 b e3 (by rw[hro];exact Nat.zero_le _)
   simp only at hb
   exact ⟨(h1.wr o1 ob1 b e1 e3 hz).1,fun _=>⟨by have:=h.pr;simp only[St.push];omega,fun hu=>by have:=(h.un b hu).1;have:=h.n0;omega⟩⟩
 ·intro o ob b e e2 hz
  rcases hown o ob e with ⟨ho,e1⟩|⟨o1,ob1,rfl,e1,rfl⟩
  ·exact hFG b (h.fz o ob b e1 (hlow o b ho e2) hz)
  ·rw[aY5] at hz
   exact h1.fz o1 ob1 b e1 (hhi o1 b e2) hz
 ·intro o o' b e e'
  rcases hmu o b e with ⟨_,a1,a2⟩|⟨o1,rfl,a1,a2⟩<;>rcases hmu o' b e' with ⟨_,b1,b2⟩|⟨o2,rfl,b1,b2⟩
  ·exact h.inj o o' b a1 b1
  ·omega
  ·omega
  ·rw[h1.inj o1 o2 b a1 b1]
 ·intro o b e
  rcases hmu o b e with ⟨ho,a1,a2⟩|⟨o1,rfl,a1,a2⟩
  ·obtain ⟨d1,d2,ob,d3,d4⟩:=h.dom o b a1
   exact ⟨by simp only[St.push];omega,by simp only;omega,ob,hgl o ob ho d3,d4⟩
  ·obtain ⟨d1,d2,ob,d3,d4⟩:=h1.dom o1 b a1
   exact ⟨d1,by simp only;omega,_,hgh o1 ob d3,by rw[QQ];exact d4⟩
 ·exact h1.lt
 ·exact h1.cl
 ·intro b hb
  obtain ⟨u1,u2⟩:=h.un b hb
  exact ⟨u1,by simp only[St.push];rw[d9 b (by have:=h.n0;omega)];exact u2⟩
 ·have:=h.n0;simp only[St.push];omega
 ·intro o ob e
  rcases hown o ob e with ⟨ho,e1⟩|⟨o1,ob1,rfl,e1,rfl⟩
  ·exact ⟨by simp only;omega,(h.own o ob e1).2⟩
  ·obtain ⟨q1,q2⟩:=h1.own o1 ob1 e1
   exact ⟨by simp only;omega,by rw[bV6];exact q2⟩
 ·exact h1.hb
 ·have:=h.pr;simp only[St.push];omega
 ·intro o b e hr
  rcases hmu o b e with ⟨ho,a1,a2⟩|⟨o1,rfl,a1,a2⟩
  ·exact h.pb o b a1 hr
  ·have:=h.pr;simp only[St.push];omega
theorem aM4 {f:FuncId} {xs xs':List V} {v:V} {st1:l9} {Q:V→l9→Prop} (h:k8 C.E f xs' v st1) (hs:J7 st.own xs=some xs') (hrow:E4 st.ro st.own (aS xs)=true) (hro:st1.ro=0)
  (hq:Q (GS st.next v) ⟨KP st.next st1.own++C4 (aS xs) st.own,st.next+st1.next,st.ro⟩):W3 C f xs st Q:=by
 refine ⟨_,_,hq,fun s μ F xsI hsr hx hp=>?_⟩
 obtain ⟨a1,a2⟩:=hsr.snaps hx hs
 obtain ⟨vI,bs,μ2,G,e,g1,g2,g3,g4,_⟩:=h s _ xsI a1 hsr.hb a2
 obtain ⟨f1,f2⟩:=hsr.freeze hrow
 obtain ⟨μ',j1,j2,j3⟩:=f1.join g1 hro g3 g4
 refine ⟨vI,s.push bs,μ',G,by simp only[callI,e],j1,j3 g2,f2.trans j2,rfl,by simp[St.push],fun b hb=>?_⟩
 rcases g3 b hb with hb|hb
 ·exact hsr.fin_ge hrow hb
 ·exact .inr (Nat.le_trans hsr.pr hb)
end
mutual
def aD (ρ:List (Nat × Nat)):V→V
 | .ref o i n c=>match f7 ρ o with|some j=> .ref j i n c|none=> .dead
 | .gr s o n=>match f7 ρ o with|some j=> .gr s j n|none=> .dead
 | .ptr o i=>match f7 ρ o with|some j=> .ptr j i|none=> .dead
 | .tok o=>match f7 ρ o with|some j=> .tok j|none=> .dead
 | .agg l=> .agg (hY ρ l)
 | .tup l=> .tup (hY ρ l)
 | .fn f a b=> .fn f (hY ρ a) (hY ρ b)
 | .ifc t v=> .ifc t (aD ρ v)
 |v=>v
def hY (ρ:List (Nat × Nat)):List V→List V
 | []=> []
 |v::r=>aD ρ v::hY ρ r
end
def aH0 (ρ:List (Nat × Nat)):Obj→Obj
 | .box t e l=> .box t e (hY ρ l)
 |o=>o
def yX (ρ:List (Nat × Nat)):E0→E0
 | []=> []
 |(t,v)::r=>(t,aD ρ v)::yX ρ r
def BV (ρ:List (Nat × Nat)) (H:E7):List (Nat × Nat)→E7
 | []=> []
 |(i,j)::r=>match f7 H i with
   |some o=>(j,aH0 ρ o)::BV ρ H r
   |none=>BV ρ H r
def YR (j:Nat):List (Nat × Nat)→Bool
 | []=>true
 |(_,k)::r=> !Nat.beq j k && YR j r
def JF (j:Nat):List (Nat × Nat)→Bool
 | []=>true
 |(k,_)::r=> !Nat.beq j k && JF j r
def OR (base ro k:Nat):List (Nat × Nat)→Bool
 | []=>true
 |(i,j)::r=>YR j r && JF i r && Nat.blt j k && (Nat.ble base j||Nat.beq i j) && (!Nat.ble ro j||Nat.ble ro i) && OR base ro k r
section
variable {C:D0} {st:l9} {s:St} {μ:Nat→Option Nat} {F:Nat→Prop}
theorem yB {j:Nat}:∀ {r:List (Nat × Nat)},YR j r=true→∀ i,(i,j) ∉ r
 | [],_,i,h=>by cases h
 |(a,b)::r,hn,i,h=>by
  simp only[YR,Bool.and_eq_true,Bool.not_eq_true',SS] at hn
  rcases List.mem_cons.1 h with h|h
  ·cases h;exact hn.1 rfl
  ·exact yB hn.2 i h
theorem rQ {i:Nat}:∀ {r:List (Nat × Nat)},JF i r=true→∀ j,(i,j) ∉ r
 | [],_,j,h=>by cases h
 |(a,b)::r,hn,j,h=>by
  simp only[JF,Bool.and_eq_true,Bool.not_eq_true',SS] at hn
  rcases List.mem_cons.1 h with h|h
  ·cases h;exact hn.1 rfl
  ·exact rQ hn.2 j h
theorem R4 {base ro k:Nat}:∀ {r:List (Nat × Nat)},OR base ro k r=true→∀ i j,(i,j) ∈ r→j<k∧(base≤j∨i=j)∧(ro≤j→ro≤i)∧(∀ i',(i',j) ∈ r→i'=i)∧∀ j',(i,j') ∈ r→j'=j
 | [],_,i,j,h=>by cases h
 |(a,b)::r,hk,i,j,h=>by
  simp only[OR,Bool.and_eq_true,Bool.or_eq_true,Bool.not_eq_true',Nat.blt_eq,Nat.ble_eq] at hk
  obtain ⟨⟨⟨⟨⟨h1,h2⟩,h3⟩,h4⟩,h5⟩,h6⟩:=hk
  have h4':base≤b∨a=b:=h4.imp id f8.1
  have h5':ro≤b→ro≤a:=fun hb=>by
   rcases h5 with h5|h5
   ·have:Nat.ble ro b=true:=by rw[Nat.ble_eq];exact hb
    rw[this] at h5;cases h5
   ·exact h5
  rcases List.mem_cons.1 h with h|h
  ·cases h
   refine ⟨h3,h4',h5',fun i' hi=>?_,fun j' hj=>?_⟩
   ·rcases List.mem_cons.1 hi with hi|hi
    ·cases hi;rfl
    ·exact (yB h1 i' hi).elim
   ·rcases List.mem_cons.1 hj with hj|hj
    ·cases hj;rfl
    ·exact (rQ h2 j' hj).elim
  ·obtain ⟨q1,q2,q3,q4,q5⟩:=R4 h6 i j h
   refine ⟨q1,q2,q3,fun i' hi=>?_,fun j' hj=>?_⟩
   ·rcases List.mem_cons.1 hi with hi|hi
    ·cases hi;exact (yB h1 i h).elim
    ·exact q4 i' hi
   ·rcases List.mem_cons.1 hj with hj|hj
    ·cases hj;exact (rQ h2 j h).elim
    ·exact q5 j' hj
theorem KW:∀ {r:List (Nat × Nat)} {i j:Nat},f7 r i=some j→(i,j) ∈ r
 | [],i,j,h=>by cases h
 |(a,b)::r,i,j,h=>by
  rw[j9] at h
  split at h
  ·rename_i e;cases h;subst e;exact List.mem_cons_self
  ·exact List.mem_cons_of_mem _ (KW h)
mutual
theorem AX {ρ:List (Nat × Nat)} {w w':VW} (h1:w'.ld=w.ld) (h2:w'.F=w.F) (h3:∀ i j,f7 ρ i=some j→j<w'.nx∧∀ b,w'.μ j=some b→w.μ i=some b):∀ {v:V} {vI:Value},b9 w v vI→b9 w' (aD ρ v) vI
 | .sc x,vI,h=>by simp only[aD,b9] at h ⊢;exact h
 | .sl s n l,vI,h=>by simp only[aD,b9] at h ⊢;exact h.sw h1 h2
 | .slk s n c l,vI,h=>by
  simp only[aD,b9] at h ⊢
  refine ⟨h.1,h.2.1,h.2.2.imp ?_ id⟩
  rintro ⟨a,e,i,r⟩
  exact ⟨a,e,iZ h2 i,r.sw h1 h2⟩
 | .dp l o,vI,h=>by
  simp only[aD,b9] at h ⊢
  obtain ⟨a,e,i,r⟩:=h
  exact ⟨a,e,iZ h2 i,r.sw h1 h2⟩
 | .ref o i n c,vI,h=>by
  simp only[aD]
  cases ho:f7 ρ o with
  |none=>simp only[b9]
  |some j=>
   simp only[b9] at h ⊢
   obtain ⟨q1,q2,b',e,q3⟩:=h
   exact ⟨(h3 o j ho).1,q2,b',e,fun b hb=>q3 b ((h3 o j ho).2 b hb)⟩
 | .gr s o n,vI,h=>by
  simp only[aD]
  cases ho:f7 ρ o with
  |none=>simp only[b9]
  |some j=>
   simp only[b9] at h ⊢
   obtain ⟨q1,q2⟩:=h
   refine ⟨(h3 o j ho).1,q2.imp (And.imp id (Or.imp id (And.imp id ?_))) ?_⟩
   ·rintro ⟨a,c,e,i⟩
    exact ⟨a,c,e,iZ h2 i⟩
   ·rintro ⟨hn,b',e,q3⟩
    exact ⟨hn,b',e,fun b hb=>q3 b ((h3 o j ho).2 b hb)⟩
 | .ptr o i,vI,h=>by
  simp only[aD]
  cases ho:f7 ρ o with
  |none=>simp only[b9]
  |some j=>
   simp only[b9] at h ⊢
   obtain ⟨q1,b',e,q3⟩:=h
   exact ⟨(h3 o j ho).1,b',e,fun b hb=>q3 b ((h3 o j ho).2 b hb)⟩
 | .agg l,vI,h=>by
  simp only[aD,b9] at h ⊢
  obtain ⟨vs,e,h⟩:=h
  exact ⟨vs,e,bK h1 h2 h3 h⟩
 | .tup l,vI,h=>by
  simp only[aD,b9] at h ⊢
  obtain ⟨vs,e,h⟩:=h
  exact ⟨vs,e,bK h1 h2 h3 h⟩
 | .fn f a b,vI,h=>by
  simp only[aD,b9] at h ⊢
  obtain ⟨as,bs,e,q1,q2⟩:=h
  exact ⟨as,bs,e,bK h1 h2 h3 q1,bK h1 h2 h3 q2⟩
 | .ifc t u,vI,h=>by
  simp only[aD,b9] at h ⊢
  obtain ⟨x,e,h⟩:=h
  exact ⟨x,e,AX h1 h2 h3 h⟩
 | .dead,vI,h=>by simp only[aD,b9]
 | .tok o,vI,h=>by
  simp only[aD]
  cases ho:f7 ρ o with
  |none=>simp only[b9]
  |some j=>
   simp only[b9] at h ⊢
   obtain ⟨q1,b',e,q3⟩:=h
   exact ⟨(h3 o j ho).1,b',e,fun b hb=>q3 b ((h3 o j ho).2 b hb)⟩
theorem bK {ρ:List (Nat × Nat)} {w w':VW} (h1:w'.ld=w.ld) (h2:w'.F=w.F) (h3:∀ i j,f7 ρ i=some j→j<w'.nx∧∀ b,w'.μ j=some b→w.μ i=some b):∀ {l:List V} {vs:List Value},d8 w l vs→d8 w' (hY ρ l) vs
 | [],vs,h=>by simp only[hY,d8] at h ⊢;exact h
 |v::r,vs,h=>by
  simp only[hY,d8] at h ⊢
  obtain ⟨u,us,e,q1,q2⟩:=h
  exact ⟨u,us,e,AX h1 h2 h3 q1,bK h1 h2 h3 q2⟩
end
theorem eA {ρ:List (Nat × Nat)} {H:E7}:∀ (r:List (Nat × Nat)) (j:Nat) (o:Obj),f7 (BV ρ H r) j=some o→∃ i ob,(i,j) ∈ r∧f7 H i=some ob∧o=aH0 ρ ob
 | [],j,o,h=>by cases h
 |(a,b)::r,j,o,h=>by
  simp only[BV] at h
  split at h
  ·rename_i ob ha
   rw[j9] at h
   split at h
   ·rename_i e;cases h;subst e;exact ⟨a,ob,List.mem_cons_self,ha,rfl⟩
   ·obtain ⟨i,ob',h1,h2⟩:=eA r j o h
    exact ⟨i,ob',List.mem_cons_of_mem _ h1,h2⟩
  ·obtain ⟨i,ob',h1,h2⟩:=eA r j o h
   exact ⟨i,ob',List.mem_cons_of_mem _ h1,h2⟩
theorem PZ {ρ:List (Nat × Nat)} {H:E7}:∀ (r:List (Nat × Nat)) (i j:Nat) (ob:Obj),(i,j) ∈ r→(∀ i',(i',j) ∈ r→i'=i)→f7 H i=some ob→f7 (BV ρ H r) j=some (aH0 ρ ob)
 | [],i,j,ob,h,_,_=>by cases h
 |(a,b)::r,i,j,ob,h,hu,ho=>by
  simp only[BV]
  by_cases hb:b=j
  ·subst hb
   have:=hu a List.mem_cons_self
   subst this
   rw[ho]
   simp only
   rw[j9,if_pos rfl]
  ·have hr:(i,j) ∈ r:=by
    rcases List.mem_cons.1 h with h|h
    ·cases h;exact absurd rfl hb
    ·exact h
   have ih:=PZ (ρ:=ρ) r i j ob hr (fun i' hi=>hu i' (List.mem_cons_of_mem _ hi)) ho
   split
   ·rw[j9,if_neg (fun e=>hb e.symm)];exact ih
   ·exact ih
theorem ER (ρ:List (Nat × Nat)) (o:Obj):(aH0 ρ o).none=o.none:=by
 cases o with
 |gro t e z l=>cases l<;>rfl
 |_=>rfl
theorem ZR (ρ:List (Nat × Nat)) (o:Obj):(aH0 ρ o).fz=o.fz:=by cases o<;>rfl
theorem bI2 (ρ:List (Nat × Nat)) (o:Obj):(aH0 ρ o).ok=o.ok:=by cases o<;>rfl
theorem PY (ρ:List (Nat × Nat)):∀ (fr:E0) (t:Nat),f7 (yX ρ fr) t=(f7 fr t).map (aD ρ)
 | [],t=>rfl
 |(j,v)::r,t=>by
  simp only[yX]
  rw[j9,j9,PY ρ r t]
  split<;>rfl
theorem SK (ρ:List (Nat × Nat)) (k:Nat) {fr:E0} (hb:C.w0.nx≤k) (hk:OR C.w0.nx st.ro k ρ=true):M9 C fr st (yX ρ fr) ⟨BV ρ st.own ρ,k,st.ro⟩:=by
 rintro s frI ⟨μ,F,h,hf,h3,h4,h5⟩
 let back:Nat→Option Nat:=fun j=>(ρ.find? fun p=>Nat.beq p.2 j).map (·.1)
 let μ':Nat→Option Nat:=fun j=>(back j).bind μ
 have hback:∀ j i,back j=some i→(i,j) ∈ ρ:=fun j i e=>by
  simp only[back,Option.map_eq_some_iff] at e
  obtain ⟨⟨a,b⟩,e1,rfl⟩:=e
  have:=List.find?_some e1
  have hb:=f8.1 this
  simp only at hb
  subst hb
  exact List.mem_of_find?_eq_some e1
 have hmk:∀ i j,(i,j) ∈ ρ→back j=some i:=fun i j hm=>by
  cases e:back j with
  |none=>
   simp only[back,Option.map_eq_none_iff,List.find?_eq_none] at e
   exact absurd (f8.2 rfl) (e (i,j) hm)
  |some i'=>rw[((R4 hk i j hm).2.2.2.1 i' (hback j i' e))]
 have hmu:∀ j b,μ' j=some b→∃ i,(i,j) ∈ ρ∧μ i=some b:=fun j b e=>by
  simp only[μ',Option.bind_eq_some_iff] at e
  obtain ⟨i,e1,e2⟩:=e
  exact ⟨i,hback j i e1,e2⟩
 have hmu2:∀ i j,(i,j) ∈ ρ→μ' j=μ i:=fun i j hm=>by simp only[μ'];rw[hmk i j hm];rfl
 have d9:∀ i j,f7 ρ i=some j→(i,j) ∈ ρ:=fun i j e=>KW e
 have hv3:∀ i j,f7 ρ i=some j→j<k∧∀ b,μ' j=some b→μ i=some b:=fun i j e=>⟨(R4 hk i j (d9 i j e)).1,fun b hb=>by rw[← hmu2 i j (d9 i j e)];exact hb⟩
 let w':VW:=⟨m8 C.E s.heap,F,μ',k⟩
 have hrep:∀ {v:V} {vI:Value},b9 (t8 C st s μ F) v vI→b9 w' (aD ρ v) vI:=fun hv=>AX (w:=t8 C st s μ F) (w':=w') rfl rfl hv3 hv
 have hrepL:∀ {l:List V} {vs:List Value},d8 (t8 C st s μ F) l vs→d8 w' (hY ρ l) vs:=fun hv=>bK (w:=t8 C st s μ F) (w':=w') rfl rfl hv3 hv
 have hD:∀ {l:List D} {vs:List Value},j6 (t8 C st s μ F) l vs→j6 w' l vs:=fun {l vs} hl=>j6.of hl.length fun i d v q1 q2=>by
  obtain ⟨v',a,b⟩:=hl.get i d q1
  rw[q2] at a;cases a
  exact u7.sw (w:=t8 C st s μ F) (w':=w') rfl rfl b
 refine ⟨μ',F,⟨?_,?_,?_,?_,?_,h.lt,h.cl,h.un,h.n0,?_,h.hb,h.pr,?_⟩,?_,⟨h3.ld,h3.F,hb,?_⟩,h4,h5⟩
 ·intro j o e hn
  obtain ⟨i,ob,hm,ho,rfl⟩:=eA ρ j o e
  rw[ER] at hn
  obtain ⟨b,blk,m1,m2,m3⟩:=h.obj i ob ho hn
  refine ⟨b,blk,by rw[hmu2 i j hm];exact m1,m2,?_⟩
  cases ob with
  |box t e' l=>exact ⟨m3.1,m3.2.1,m3.2.2.1,hrepL m3.2.2.2⟩
  |row t e' g z l=>exact ⟨m3.1,m3.2.1,m3.2.2.1,hD m3.2.2.2⟩
  |gro t e' z l=>exact ⟨m3.1,m3.2.1,m3.2.2.1,hD m3.2.2.2⟩
 ·intro j o b e e2 hz
  obtain ⟨i,ob,hm,ho,rfl⟩:=eA ρ j o e
  rw[ZR] at hz
  rw[hmu2 i j hm] at e2
  obtain ⟨q1,q2⟩:=h.wr i ob b ho e2 hz
  exact ⟨q1,fun hro=>q2 ((R4 hk i j hm).2.2.1 hro)⟩
 ·intro j o b e e2 hz
  obtain ⟨i,ob,hm,ho,rfl⟩:=eA ρ j o e
  rw[ZR] at hz
  rw[hmu2 i j hm] at e2
  exact h.fz i ob b ho e2 hz
 ·intro j j' b e e'
  obtain ⟨i,hm,e1⟩:=hmu j b e
  obtain ⟨i',hm',e1'⟩:=hmu j' b e'
  have:=h.inj i i' b e1 e1'
  subst this
  exact ((R4 hk i j hm).2.2.2.2 j' hm').symm
 ·intro j b e
  obtain ⟨i,hm,e1⟩:=hmu j b e
  obtain ⟨d1,d2,ob,d3,d4⟩:=h.dom i b e1
  exact ⟨d1,(R4 hk i j hm).1,_,PZ ρ i j ob hm (R4 hk i j hm).2.2.2.1 d3,by rw[ER];exact d4⟩
 ·intro j o e
  obtain ⟨i,ob,hm,ho,rfl⟩:=eA ρ j o e
  exact ⟨(R4 hk i j hm).1,by rw[bI2];exact (h.own i ob ho).2⟩
 ·intro j b e hro
  obtain ⟨i,hm,e1⟩:=hmu j b e
  exact h.pb i b e1 ((R4 hk i j hm).2.2.1 hro)
 ·intro t v e
  rw[PY,Option.map_eq_some_iff] at e
  obtain ⟨u,e1,rfl⟩:=e
  obtain ⟨vI,a,b⟩:=hf t u e1
  exact ⟨vI,a,hrep b⟩
 ·intro j b hj e
  obtain ⟨i,hm,e1⟩:=hmu j b e
  have hij:i=j:=by
   rcases (R4 hk i j hm).2.1 with h'|h'
   ·omega
   ·exact h'
  subst hij
  exact h3.μ i b hj e1
theorem M9.trans {fr fr' fr2:E0} {st' st2:l9} (h:M9 C fr st fr' st') (k:M9 C fr' st' fr2 st2):M9 C fr st fr2 st2:=fun s frI hr=>k s frI (h s frI hr)
theorem SJ (fr:E0) (t e:Nat):M9 C fr st fr ⟨(st.next,.gro t e false [])::st.own,st.next+1,st.ro⟩:=by
 rintro s frI ⟨μ,F,h,hf,h3,h4,h5⟩
 have hle:VW.le (t8 C st s μ F) (t8 C ⟨(st.next,.gro t e false [])::st.own,st.next+1,st.ro⟩ s μ F):=⟨fun _ _=>rfl,fun _ h=>h,Nat.le_succ _,fun _ _ _ e=>e⟩
 have hown:∀ i ob,f7 ((st.next,Obj.gro t e false [])::st.own) i=some ob→(i=st.next∧ob= .gro t e false [])∨(i ≠ st.next∧f7 st.own i=some ob):=fun i ob e=>by
  rw[j9] at e
  split at e
  ·rename_i hi;cases e;exact .inl ⟨hi,rfl⟩
  ·rename_i hi;exact .inr ⟨hi,e⟩
 have hne:∀ i b,μ i=some b→i ≠ st.next:=fun i b e=>Nat.ne_of_lt (h.dom i b e).2.1
 refine ⟨μ,F,⟨?_,?_,?_,h.inj,?_,h.lt,h.cl,h.un,h.n0,?_,h.hb,h.pr,h.pb⟩,hf.mono hle,h3.trans hle,h4,h5⟩
 ·intro i ob e hn
  rcases hown i ob e with ⟨rfl,rfl⟩|⟨hi,e1⟩
  ·cases hn
  ·obtain ⟨b,blk,m1,m2,m3⟩:=h.obj i ob e1 hn
   exact ⟨b,blk,m1,m2,m3.mono hle⟩
 ·intro i ob b e e2 hz
  rcases hown i ob e with ⟨rfl,rfl⟩|⟨hi,e1⟩
  ·exact absurd rfl (hne _ b e2)
  ·exact h.wr i ob b e1 e2 hz
 ·intro i ob b e e2 hz
  rcases hown i ob e with ⟨rfl,rfl⟩|⟨hi,e1⟩
  ·exact absurd rfl (hne _ b e2)
  ·exact h.fz i ob b e1 e2 hz
 ·intro i b e
  obtain ⟨d1,d2,ob,d3,d4⟩:=h.dom i b e
  exact ⟨d1,by simp only;omega,ob,by rw[j9,if_neg (hne i b e)];exact d3,d4⟩
 ·intro i ob e
  rcases hown i ob e with ⟨rfl,rfl⟩|⟨hi,e1⟩
  ·exact ⟨by simp,rfl⟩
  ·exact ⟨by have:=(h.own i ob e1).1;simp only;omega,(h.own i ob e1).2⟩
def Z2 (C:D0) (st:l9) (v v':V):Prop:=∀ s μ F vI,SR C st s μ F→b9 (t8 C st s μ F) v vI→b9 (t8 C st s μ F) v' vI
theorem M3 {fr:E0} {t:Nat} {v v':V} (h:f7 fr t=some v) (hv:Z2 C st v v'):M9 C fr st (qO fr t v') st:=by
 rintro s frI ⟨μ,F,h1,hf,h3⟩
 refine ⟨μ,F,h1,fun i u e=>?_,h3⟩
 rw[kE] at e
 split at e
 ·rename_i hi
  cases e
  subst hi
  obtain ⟨vI,a,b⟩:=hf _ v h
  exact ⟨vI,a,hv s μ F vI h1 b⟩
 ·exact hf i u e
theorem QK {o t e:Nat} {z:Bool} (h:o<st.next):Z2 C st (.sc (.slice none 0 0)) (.gr 2 o 0):=fun s μ F vI hs hv=>by
 rw[hv.scv]
 simp only[b9]
 exact ⟨h,.inl ⟨by trivial,.inl (by trivial)⟩⟩
theorem GV {fr:E0} {o t e k:Nat} {l:List V} {v v':V} (h:f7 st.own o=some (.box t e l)) (hk:l[k]? =some v) (hv:Z2 C st v v'):M9 C fr st fr ⟨A9 st.own o (.box t e (l.set k v')),st.next,st.ro⟩:=by
 rintro s frI ⟨μ,F,h1,hf,h3⟩
 have hown:∀ i ob,f7 (A9 st.own o (.box t e (l.set k v'))) i=some ob→(i=o∧ob= .box t e (l.set k v'))∨(i ≠ o∧f7 st.own i=some ob):=fun i ob e'=>by
  rw[O7 _ _ _ _ _ h] at e'
  split at e'
  ·rename_i hi;cases e';exact .inl ⟨hi,rfl⟩
  ·rename_i hi;exact .inr ⟨hi,e'⟩
 refine ⟨μ,F,⟨?_,?_,?_,h1.inj,?_,h1.lt,h1.cl,h1.un,h1.n0,?_,h1.hb,h1.pr,h1.pb⟩,hf,h3⟩
 ·intro i ob e' hn
  rcases hown i ob e' with ⟨rfl,rfl⟩|⟨hi,e1⟩
  ·obtain ⟨b,blk,m1,m2,m3⟩:=h1.obj i _ h rfl
   refine ⟨b,blk,m1,m2,m3.1,m3.2.1,m3.2.2.1,?_⟩
   refine d8.of (by rw[m3.2.2.2.length];simp) fun j d u q1 q2=>?_
   rw[List.getElem?_set] at q1
   split at q1
   ·rename_i hj
    split at q1
    ·cases q1
     subst hj
     obtain ⟨u',a,b'⟩:=m3.2.2.2.get _ v hk
     rw[q2] at a;cases a
     exact hv s μ F u h1 b'
    ·cases q1
   ·obtain ⟨u',a,b'⟩:=m3.2.2.2.get j d q1
    rw[q2] at a;cases a
    exact b'
  ·exact h1.obj i ob e1 hn
 ·intro i ob b e' e2 hz
  rcases hown i ob e' with ⟨rfl,rfl⟩|⟨hi,e1⟩
  ·exact h1.wr i _ b h e2 rfl
  ·exact h1.wr i ob b e1 e2 hz
 ·intro i ob b e' e2 hz
  rcases hown i ob e' with ⟨rfl,rfl⟩|⟨hi,e1⟩
  ·cases hz
  ·exact h1.fz i ob b e1 e2 hz
 ·intro i b e'
  obtain ⟨d1,d2,ob,d3,d4⟩:=h1.dom i b e'
  by_cases hi:i=o
  ·subst hi;exact ⟨d1,d2,_,by simp only;rw[O7 _ _ _ _ _ h,if_pos rfl],rfl⟩
  ·exact ⟨d1,d2,ob,by simp only;rw[O7 _ _ _ _ _ h,if_neg hi];exact d3,d4⟩
 ·intro i ob e'
  rcases hown i ob e' with ⟨rfl,rfl⟩|⟨hi,e1⟩
  ·exact ⟨(h1.own i _ h).1,rfl⟩
  ·exact h1.own i ob e1
theorem eM {fr:E0} {t:Nat} {v v':V} (h:f7 fr t=some v) (hs:w5 st.own v=some v') (hrow:E4 st.ro st.own (dJ v)=true):M9 C fr st (qO fr t v') ⟨C4 (dJ v) st.own,st.next,st.ro⟩:=by
 rintro s frI ⟨μ,F,h1,hf,h3,h4,h5⟩
 obtain ⟨f1,f2⟩:=h1.freeze hrow
 refine ⟨μ,_,f1,fun i u e=>?_,h3.trans f2,h4,fun b hb=>?_⟩
 ·rw[kE] at e
  split at e
  ·rename_i hi
   cases e
   subst hi
   obtain ⟨vI,a,b⟩:=hf _ v h
   refine ⟨vI,a,?_⟩
   have:=JU (w2:=YQ C.E s.heap (aP μ F (dJ v))) h1.hr f2 rfl rfl b hs (fun o ho b e=> .inr ⟨o,ho,e⟩) (fun o ho b e k sp blk hb=>kH (E:=C.E) hb)
   refine b9.mono (w:=YQ C.E s.heap (aP μ F (dJ v))) (w':=t8 C ⟨C4 (dJ v) st.own,st.next,st.ro⟩ s μ (aP μ F (dJ v))) ⟨fun _ _=>rfl,fun _ h=>h,Nat.zero_le _,fun o b ho e=>?_⟩ this
   exact absurd ho (Nat.not_lt_zero _)
  ·obtain ⟨vI,a,b⟩:=hf i u e
   exact ⟨vI,a,b9.mono f2 b⟩
 ·rcases h1.fin_ge hrow hb with hb|hb
  ·exact h5 b hb
  ·exact .inr (by rw[← h4];exact hb)
end
def gK (C:D0):List KF→Ex→E0→l9→B5→Prop
 | [],ex,fr,st,P=>P ex fr st
 | .seq b::K,.normal,fr,st,P=>KK C b fr st fun ex fr st=>gK C K ex fr st P
 | .seq _::K,ex,fr,st,P=>gK C K ex fr st P
 | .block id::K,.exit i,fr,st,P=>if i=id then gK C K .normal fr st P else gK C K (.exit i) fr st P
 | .block _::K,ex,fr,st,P=>gK C K ex fr st P
def gC (C:D0) (c:AC) (K:List KF) (fr:E0) (st:l9) (P:B5):Prop:=KK C c fr st fun ex fr st=>gK C K ex fr st P
def gO (C:D0) (l:List f9) (ks:List Nat) (K:List KF) (fr:E0) (st:l9) (P:B5):Prop:=wpO C l fr st fun fr st=>gK C K .normal (D3 ks fr) st P
def gS (C:D0) (r:Option (V × l9)) (d:Option Nat) (l:List f9) (ks:List Nat) (K:List KF) (fr:E0) (P:B5):Prop:=
 match r with|some (v,st')=>gO C l ks K (u6 fr d v) st' P|none=>False
def gV (C:D0) (r:VO) (o:K8) (st:l9) (d:Option Nat) (l:List f9) (ks:List Nat) (K:List KF) (fr:E0) (P:B5):Prop:=
 match r with
 |some (v,ob,fz)=>gS C (if E4 st.ro st.own fz then some (v,st.push ob fz) else none) d l ks K fr P
 |none=>gS C (Q5 fr st o) d l ks K fr P
def tG (C:D0) (f:FuncId) (xs:Option (List V)) (st:l9) (d:Option Nat) (l:List f9) (ks:List Nat) (K:List KF) (fr:E0) (P:B5):Prop:=
 match xs with|some vs=>W3 C f vs st fun v st'=>gO C l ks K (u6 fr d v) st' P|none=>False
def aP5 (C:D0) (x:Option V) (xs:Option (List V)) (st:l9) (d:Option Nat) (l:List f9) (ks:List Nat) (K:List KF) (fr:E0) (P:B5):Prop:=
 match x,xs with
 |some g,some vs=>(match aF g vs with|some (f,ws)=>tG C f (some ws) st d l ks K fr P|none=>HP C g vs st fun v st'=>gO C l ks K (u6 fr d v) st' P)
 |_,_=>False
def DH (C:D0) (ms:List (TypeId × FuncId)) (x:Option V) (xs:Option (List V)) (st:l9) (d:Option Nat) (l:List f9) (ks:List Nat) (K:List KF) (fr:E0) (P:B5):Prop:=
 match x,xs with
 |some g,some vs=>(match fC ms g vs with|some (f,ws)=>tG C f (some ws) st d l ks K fr P|none=>False)
 |_,_=>False
def gG (C:D0) (v:Option V) (want:Bool) (d:Option Nat) (o:K8) (l:List f9) (ks:List Nat) (K:List KF) (fr:E0) (st:l9) (P:B5):Prop:=
 match v with
 |some (.sc (.bool b))=>if b==want then gO C (⟨d,none,o⟩::l) ks K fr st P else gO C l ks K (u6 fr d (.tup [])) st P
 |some (.tup _)=>gO C l ks K (u6 fr d (.tup [])) st P
 |_=>False
def gI (C:D0) (v:Option V) (t e:AC) (K:List KF) (fr:E0) (st:l9) (P:B5):Prop:=
 match v with
 |some (.sc (.bool b))=>if b then gC C t K fr st P else gC C e K fr st P
 |_=>False
def gL (C:D0) (ks:List Nat) (b:AC) (K:List KF) (fr:E0) (st:l9) (P:B5):Prop:=DV C (B0 C.E (.loop ks b)) fr st fun ex fr st=>gK C K ex fr st P
def gP (C:D0) (l:List f9) (hid:List (List Bool)) (vds:List (Nat × Bool)) (tail:List f9) (ks:List Nat) (K:List KF) (fr:E0) (st:l9) (P:B5):Prop:=
 wpP C l hid vds fr st fun fr st=>gO C tail ks K fr st P
def gPV (C:D0) (r:VO) (d:Option Nat) (l:List f9) (hid:List (List Bool)) (vds:List (Nat × Bool)) (tail:List f9) (ks:List Nat) (K:List KF) (fr:E0) (st:l9) (P:B5):Prop:=
 match r with
 |some (v,ob,fz)=>if fz.isEmpty then gP C l hid ((st.next,ob.isSome)::vds) tail ks K (u6 fr d v) (st.push ob []) P else False
 |none=>False
def gPC (C:D0) (f:FuncId) (xs:Option (List V)) (H:E7) (d:Option Nat) (l:List f9) (hid:List (List Bool)) (vds:List (Nat × Bool)) (tail:List f9) (ks:List Nat) (K:List KF) (fr:E0) (st:l9) (P:B5):Prop:=
 match xs with|some vs=>BY C f vs H st.next (fun v=>gP C l hid ((st.next,false)::vds) tail ks K (u6 fr d v) (st.push none []) P) (fun v ob=>gP C l hid ((st.next,true)::vds) tail ks K (u6 fr d v) (st.push (some ob) []) P)|none=>False
def XU (C:D0) (x:Option V) (xs:Option (List V)) (H:E7) (d:Option Nat) (l:List f9) (hid:List (List Bool)) (vds:List (Nat × Bool)) (tail:List f9) (ks:List Nat) (K:List KF) (fr:E0) (st:l9) (P:B5):Prop:=
 match x,xs with
 |some g,some vs=>(match aF g vs with|some (f,ws)=>gPC C f (some ws) H d l hid vds tail ks K fr st P|none=>False)
 |_,_=>False
def XV (C:D0) (v:Option V) (want:Bool) (t:Nat) (d:Option Nat) (o:K8) (l:List f9) (hid:List (List Bool)) (vds:List (Nat × Bool)) (tail:List f9) (ks:List Nat) (K:List KF) (fr:E0) (st:l9) (P:B5):Prop:=
 match v with
 |some (.sc (.bool b))=>if b==want then KL C (D3 (l6 (p8 o)++ [t]) fr) (O3 st.own vds (hid.headD [])) st o (fun v ob=>gP C l hid.tail ((st.next,ob.isSome)::vds) tail ks K (u6 fr d v) (st.push ob []) P)
   else gP C l hid.tail ((st.next,false)::vds) tail ks K (u6 fr d (.tup [])) st P
 |some (.tup _)=>gP C l hid.tail ((st.next,false)::vds) tail ks K (u6 fr d (.tup [])) st P
 |_=>False
def uR:K8→Bool
 | .callF _ _=>false
 | .callV _ _=>false
 | .callI _ _ _=>false
 |_=>true
section
variable {C:D0} {K:List KF} {fr:E0} {st:l9} {P:B5}
theorem aQ1 (ex:Ex):gK C [] ex fr st P=P ex fr st:=(rfl)
theorem aQ2 (b:AC):gK C (.seq b::K) .normal fr st P=gC C b K fr st P:=(rfl)
theorem tH (b:AC) (i:Nat):gK C (.seq b::K) (.exit i) fr st P=gK C K (.exit i) fr st P:=(rfl)
theorem xB (b:AC):gK C (.seq b::K) .ret fr st P=gK C K .ret fr st P:=(rfl)
theorem gX (i:Nat):gK C (.block i::K) .normal fr st P=gK C K .normal fr st P:=(rfl)
theorem lY (i j:Nat):gK C (.block i::K) (.exit j) fr st P=if j=i then gK C K .normal fr st P else gK C K (.exit j) fr st P:=(rfl)
theorem oR (i:Nat):gK C (.block i::K) .ret fr st P=gK C K .ret fr st P:=(rfl)
theorem XL:gC C .skip K fr st P=gK C K .normal fr st P:=(rfl)
theorem aP3:gC C .ret K fr st P=gK C K .ret fr st P:=(rfl)
theorem XJ (i:Nat):gC C (.exit i) K fr st P=gK C K (.exit i) fr st P:=(rfl)
theorem aP4 (a b:AC):gC C (.seq a b) K fr st P=gC C a (.seq b::K) fr st P:=by
 unfold gC
 simp only[KK]
 congr 1
 funext ex f t
 cases ex<;>rfl
theorem NC (i:Nat) (a:AC):gC C (.block i a) K fr st P=gC C a (.block i::K) fr st P:=by
 unfold gC
 simp only[KK]
 congr 1
 funext ex f t
 cases ex<;>rfl
theorem aP2 (l:List f9) (ks:List Nat):gC C (.ops l ks) K fr st P=gO C l ks K fr st P:=(rfl)
theorem XH (c:Operand) (t e:AC):gC C (.cond c t e) K fr st P=gI C (o8 fr c) t e K fr st P:=by
 unfold gC gI
 simp only[KK]
 rfl
theorem IK (t e:AC):gI C (some (.sc (.bool true))) t e K fr st P=gC C t K fr st P:=(rfl)
theorem xA (t e:AC):gI C (some (.sc (.bool false))) t e K fr st P=gC C e K fr st P:=(rfl)
theorem XK (ks:List Nat) (b:AC):gC C (.loop ks b) K fr st P=gL C ks b K fr st P:=(rfl)
theorem XI (pre tail:List f9) (hid:List (List Bool)) (ks:List Nat):gC C (.draw pre tail hid ks) K fr st P=gP C pre hid [] tail ks K fr st P:=(rfl)
theorem aQ3 (ks:List Nat):gO C [] ks K fr st P=gK C K .normal (D3 ks fr) st P:=(rfl)
theorem NH (d:Option Nat) (f:FuncId) (xs:List Operand) (l:List f9) (ks:List Nat):gO C (⟨d,none,.callF f xs⟩::l) ks K fr st P=tG C f (W2 fr xs) st d l ks K fr P:=(rfl)
theorem NJ (d:Option Nat) (x:Operand) (xs:List Operand) (l:List f9) (ks:List Nat):gO C (⟨d,none,.callV x xs⟩::l) ks K fr st P=aP5 C (o8 fr x) (W2 fr xs) st d l ks K fr P:=by
 unfold gO aP5
 simp only[wpO,nY]
 cases o8 fr x with
 |none=>rfl
 |some g=>cases W2 fr xs with
  |none=>rfl
  |some vs=>simp only;cases aF g vs<;>rfl
theorem NI (d:Option Nat) (ms:List (TypeId × FuncId)) (x:Operand) (xs:List Operand) (l:List f9) (ks:List Nat):gO C (⟨d,none,.callI ms x xs⟩::l) ks K fr st P=DH C ms (o8 fr x) (W2 fr xs) st d l ks K fr P:=by
 unfold gO DH
 simp only[wpO,nY]
 cases o8 fr x with
 |none=>rfl
 |some g=>cases W2 fr xs with
  |none=>rfl
  |some vs=>simp only;cases fC ms g vs<;>rfl
theorem XT (d:Option Nat) (o:K8) (ho:uR o=true) (l:List f9) (ks:List Nat):gO C (⟨d,none,o⟩::l) ks K fr st P=gV C (f5 C.E.old fr st.own st.next o) o st d l ks K fr P:=by
 unfold gO gV gS
 simp only[wpO]
 have:∀ Q,nY C fr st o Q=match SD C.E.old fr st o with|some (v,st')=>Q v st'|none=>False:=by
  intro Q
  cases o<;>first|rfl|cases ho
 rw[this]
 unfold SD
 cases f5 C.E.old fr st.own st.next o with
 |none=>rfl
 |some r=>
  obtain ⟨v,ob,fz⟩:=r
  rfl
theorem NK (d:Option Nat) (t:Nat) (want:Bool) (o:K8) (l:List f9) (ks:List Nat):gO C (⟨d,some (t,want),o⟩::l) ks K fr st P=gG C (f7 fr t) want d o l ks K fr st P:=(rfl)
theorem aQ0 (b:Bool) (d:Option Nat) (o:K8) (l:List f9) (ks:List Nat):gG C (some (.sc (.bool b))) b d o l ks K fr st P=gO C (⟨d,none,o⟩::l) ks K fr st P:=by simp[gG]
theorem bO4 (d:Option Nat) (o:K8) (l:List f9) (ks:List Nat):gG C (some (.sc (.bool true))) false d o l ks K fr st P=gO C l ks K (u6 fr d (.tup [])) st P:=(rfl)
theorem bO3 (d:Option Nat) (o:K8) (l:List f9) (ks:List Nat):gG C (some (.sc (.bool false))) true d o l ks K fr st P=gO C l ks K (u6 fr d (.tup [])) st P:=(rfl)
theorem aP9 (a:List V) (want:Bool) (d:Option Nat) (o:K8) (l:List f9) (ks:List Nat):gG C (some (.tup a)) want d o l ks K fr st P=gO C l ks K (u6 fr d (.tup [])) st P:=(rfl)
theorem EL (st:l9):st.push none []=st:=by simp[l9.push,A1]
theorem YD (v:V) (o:K8) (d:Option Nat) (l:List f9) (ks:List Nat):gV C (some (v,none,[])) o st d l ks K fr P=gO C l ks K (u6 fr d v) st P:=by
 unfold gV gS
 simp only[E4,if_true,EL]
theorem aQ7 (v:V) (ob:Obj) (o:K8) (d:Option Nat) (l:List f9) (ks:List Nat):gV C (some (v,some ob,[])) o st d l ks K fr P=gO C l ks K (u6 fr d v) ⟨(st.next,ob)::st.own,st.next+1,st.ro⟩ P:=by
 unfold gV gS
 simp only[E4,if_true,l9.push,A1]
theorem YB (v:V) (ob:Obj) (fz:List Nat) (hf:E4 st.ro st.own fz=true) (o:K8) (d:Option Nat) (l:List f9) (ks:List Nat):gV C (some (v,some ob,fz)) o st d l ks K fr P=gO C l ks K (u6 fr d v) ⟨(st.next,ob)::C4 fz st.own,st.next+1,st.ro⟩ P:=by
 unfold gV gS
 simp only[hf,if_true,l9.push]
theorem YC (o:K8) (d:Option Nat) (l:List f9) (ks:List Nat):gV C none o st d l ks K fr P=gS C (Q5 fr st o) d l ks K fr P:=(rfl)
theorem YA (v:V) (st':l9) (d:Option Nat) (l:List f9) (ks:List Nat):gS C (some (v,st')) d l ks K fr P=gO C l ks K (u6 fr d v) st' P:=(rfl)
theorem wZ (f:FuncId) (vs:List V) (d:Option Nat) (l:List f9) (ks:List Nat):tG C f (some vs) st d l ks K fr P=W3 C f vs st fun v st'=>gO C l ks K (u6 fr d v) st' P:=(rfl)
theorem XN (f:FuncId) (a b:List V) (vs:List V) (d:Option Nat) (l:List f9) (ks:List Nat):aP5 C (some (.fn f a b)) (some vs) st d l ks K fr P=tG C f (some (a++vs++b)) st d l ks K fr P:=(rfl)
theorem XO (f:FuncId) (a b:Array Value) (vs:List V) (d:Option Nat) (l:List f9) (ks:List Nat):aP5 C (some (.sc (.func (.func f) a b))) (some vs) st d l ks K fr P=tG C f (some vs) st d l ks K fr P:=(rfl)
theorem ND (o:Nat) (vs:List V) (d:Option Nat) (l:List f9) (ks:List Nat):aP5 C (some (.tok o)) (some vs) st d l ks K fr P=bM7 C o vs st (fun v st'=>gO C l ks K (u6 fr d v) st' P):=(rfl)
def gM (C:D0) (f:Option FuncId) (vs:List V) (st:l9) (d:Option Nat) (l:List f9) (ks:List Nat) (K:List KF) (fr:E0) (P:B5):Prop:=match f with|some f=>tG C f (some vs) st d l ks K fr P|none=>False
theorem XS (f:FuncId) (vs:List V) (d:Option Nat) (l:List f9) (ks:List Nat):gM C (some f) vs st d l ks K fr P=tG C f (some vs) st d l ks K fr P:=(rfl)
theorem DI (ms:List (TypeId × FuncId)) (t:TypeId) (u:V) (vs:List V) (d:Option Nat) (l:List f9) (ks:List Nat):DH C ms (some (.ifc t u)) (some vs) st d l ks K fr P=gM C (Q3 ms t) (u::vs) st d l ks K fr P:=by
 simp only[DH,fC,gM]
 cases Q3 ms t<;>rfl
theorem NG (ms:List (TypeId × FuncId)) (t:TypeId) (u:Value) (vs:List V) (d:Option Nat) (l:List f9) (ks:List Nat):DH C ms (some (.sc (.iface t u))) (some vs) st d l ks K fr P=gM C (Q3 ms t) (.sc u::vs) st d l ks K fr P:=by
 simp only[DH,fC,gM]
 cases Q3 ms t<;>rfl
theorem aQ6 (hid:List (List Bool)) (vds:List (Nat × Bool)) (tail:List f9) (ks:List Nat):gP C [] hid vds tail ks K fr st P=gO C tail ks K fr st P:=(rfl)
theorem cX (d:Option Nat) (o:K8):q9 ⟨d,none,o⟩=l6 (p8 o):=by simp[q9]
theorem BG {f:E0} {H:E7} {o:K8} (ho:uR o=true) (Q:V→Option Obj→Prop):KL C f H st o Q=match f5 C.E.old f H st.next o with|some (v,ob,fz)=>if fz.isEmpty then Q v ob else False|none=>False:=by
 cases o<;>first|rfl|cases ho
theorem XZ (d:Option Nat) (o:K8) (ho:uR o=true) (l:List f9) (h:List Bool) (hid:List (List Bool)) (vds:List (Nat × Bool)) (tail:List f9) (ks:List Nat):
  gP C (⟨d,none,o⟩::l) (h::hid) vds tail ks K fr st P=gPV C (f5 C.E.old (D3 (l6 (p8 o)) fr) (O3 st.own vds h) st.next o) d l hid vds tail ks K fr st P:=by
 unfold gP gPV
 simp only[wpP,List.headD_cons,List.tail_cons,cX]
 rw[BG ho]
 cases f5 C.E.old (D3 (l6 (p8 o)) fr) (O3 st.own vds h) st.next o with
 |none=>rfl
 |some r=>obtain ⟨v,ob,fz⟩:=r;rfl
theorem NQ (d:Option Nat) (f:FuncId) (xs:List Operand) (l:List f9) (h:List Bool) (hid:List (List Bool)) (vds:List (Nat × Bool)) (tail:List f9) (ks:List Nat):
  gP C (⟨d,none,.callF f xs⟩::l) (h::hid) vds tail ks K fr st P=gPC C f (W2 (D3 (l6 xs) fr) xs) (O3 st.own vds h) d l hid vds tail ks K fr st P:=by
 unfold gP gPC
 simp only[wpP,List.headD_cons,List.tail_cons,cX,KL,p8]
 try rfl
theorem NR (d:Option Nat) (x:Operand) (xs:List Operand) (l:List f9) (h:List Bool) (hid:List (List Bool)) (vds:List (Nat × Bool)) (tail:List f9) (ks:List Nat):
  gP C (⟨d,none,.callV x xs⟩::l) (h::hid) vds tail ks K fr st P=XU C (o8 (D3 (l6 (x::xs)) fr) x) (W2 (D3 (l6 (x::xs)) fr) xs) (O3 st.own vds h) d l hid vds tail ks K fr st P:=by
 unfold gP XU gPC
 simp only[wpP,List.headD_cons,List.tail_cons,cX,KL,p8]
 cases o8 (D3 (l6 (x::xs)) fr) x with
 |none=>rfl
 |some g=>cases W2 (D3 (l6 (x::xs)) fr) xs with
  |none=>rfl
  |some vs=>simp only;cases aF g vs<;>rfl
theorem NP (v:V) (d:Option Nat) (l:List f9) (hid:List (List Bool)) (vds:List (Nat × Bool)) (tail:List f9) (ks:List Nat):gPV C (some (v,none,[])) d l hid vds tail ks K fr st P=gP C l hid ((st.next,false)::vds) tail ks K (u6 fr d v) st P:=by
 simp[gPV,EL]
theorem XY (v:V) (ob:Obj) (d:Option Nat) (l:List f9) (hid:List (List Bool)) (vds:List (Nat × Bool)) (tail:List f9) (ks:List Nat):gPV C (some (v,some ob,[])) d l hid vds tail ks K fr st P=gP C l hid ((st.next,true)::vds) tail ks K (u6 fr d v) ⟨(st.next,ob)::st.own,st.next+1,st.ro⟩ P:=by
 simp[gPV,l9.push,A1]
theorem NL (f:FuncId) (vs:List V) (H:E7) (d:Option Nat) (l:List f9) (hid:List (List Bool)) (vds:List (Nat × Bool)) (tail:List f9) (ks:List Nat):gPC C f (some vs) H d l hid vds tail ks K fr st P=BY C f vs H st.next (fun v=>gP C l hid ((st.next,false)::vds) tail ks K (u6 fr d v) st P) (fun v ob=>gP C l hid ((st.next,true)::vds) tail ks K (u6 fr d v) ⟨(st.next,ob)::st.own,st.next+1,st.ro⟩ P):=by
 simp only[gPC,l9.push,A1]
theorem NM (f:FuncId) (a b vs:List V) (H:E7) (d:Option Nat) (l:List f9) (hid:List (List Bool)) (vds:List (Nat × Bool)) (tail:List f9) (ks:List Nat):XU C (some (.fn f a b)) (some vs) H d l hid vds tail ks K fr st P=gPC C f (some (a++vs++b)) H d l hid vds tail ks K fr st P:=(rfl)
theorem NN (f:FuncId) (a b:Array Value) (vs:List V) (H:E7) (d:Option Nat) (l:List f9) (hid:List (List Bool)) (vds:List (Nat × Bool)) (tail:List f9) (ks:List Nat):XU C (some (.sc (.func (.func f) a b))) (some vs) H d l hid vds tail ks K fr st P=gPC C f (some vs) H d l hid vds tail ks K fr st P:=(rfl)
theorem NS (d:Option Nat) (t:Nat) (want:Bool) (o:K8) (l:List f9) (h:List Bool) (hid:List (List Bool)) (vds:List (Nat × Bool)) (tail:List f9) (ks:List Nat):
  gP C (⟨d,some (t,want),o⟩::l) (h::hid) vds tail ks K fr st P=XV C (f7 fr t) want t d o l (h::hid) vds tail ks K fr st P:=(rfl)
theorem XX (b:Bool) (t:Nat) (d:Option Nat) (o:K8) (ho:uR o=true) (l:List f9) (h:List Bool) (hid:List (List Bool)) (vds:List (Nat × Bool)) (tail:List f9) (ks:List Nat):
  XV C (some (.sc (.bool b))) b t d o l (h::hid) vds tail ks K fr st P=gPV C (f5 C.E.old (D3 (l6 (p8 o)++ [t]) fr) (O3 st.own vds h) st.next o) d l hid vds tail ks K fr st P:=by
 unfold XV gPV
 simp only[beq_self_eq_true,if_true,List.headD_cons,List.tail_cons]
 rw[BG ho]
theorem NO (b:Bool) (t:Nat) (d:Option Nat) (f:FuncId) (xs:List Operand) (l:List f9) (h:List Bool) (hid:List (List Bool)) (vds:List (Nat × Bool)) (tail:List f9) (ks:List Nat):
  XV C (some (.sc (.bool b))) b t d (.callF f xs) l (h::hid) vds tail ks K fr st P=gPC C f (W2 (D3 (l6 xs++ [t]) fr) xs) (O3 st.own vds h) d l hid vds tail ks K fr st P:=by
 unfold XV gPC
 simp only[beq_self_eq_true,if_true,List.headD_cons,List.tail_cons,KL,p8]
 try rfl
theorem aQ5 (t:Nat) (d:Option Nat) (o:K8) (l:List f9) (h:List Bool) (hid:List (List Bool)) (vds:List (Nat × Bool)) (tail:List f9) (ks:List Nat):XV C (some (.sc (.bool true))) false t d o l (h::hid) vds tail ks K fr st P=gP C l hid ((st.next,false)::vds) tail ks K (u6 fr d (.tup [])) st P:=(rfl)
theorem aQ4 (t:Nat) (d:Option Nat) (o:K8) (l:List f9) (h:List Bool) (hid:List (List Bool)) (vds:List (Nat × Bool)) (tail:List f9) (ks:List Nat):XV C (some (.sc (.bool false))) true t d o l (h::hid) vds tail ks K fr st P=gP C l hid ((st.next,false)::vds) tail ks K (u6 fr d (.tup [])) st P:=(rfl)
theorem XW (a:List V) (want:Bool) (t:Nat) (d:Option Nat) (o:K8) (l:List f9) (h:List Bool) (hid:List (List Bool)) (vds:List (Nat × Bool)) (tail:List f9) (ks:List Nat):XV C (some (.tup a)) want t d o l (h::hid) vds tail ks K fr st P=gP C l hid ((st.next,false)::vds) tail ks K (u6 fr d (.tup [])) st P:=(rfl)
def KS (C:D0) (I:Nat→E0→l9→Prop) (m:Nat) (K:List KF) (P:B5):B5
 | .normal,fr,st=>∃ m' fr' st',m'<m∧M9 C fr st fr' st'∧I m' fr' st'
 | .exit i,fr,st=>gK C K (.exit i) fr st P
 | .ret,fr,st=>gK C K .ret fr st P
theorem pC (I m):KS C I m K P .normal fr st=∃ m' fr' st',m'<m∧M9 C fr st fr' st'∧I m' fr' st':=(rfl)
theorem xP (I m) (i:Nat):KS C I m K P (.exit i) fr st=gK C K (.exit i) fr st P:=(rfl)
theorem EE (I m):KS C I m K P .ret fr st=gK C K .ret fr st P:=(rfl)
theorem s8 {ks:List Nat} {b:AC} (I:Nat→E0→l9→Prop) (m:Nat) (hm:m<C.E.rounds) (hi:∃ fr' st',M9 C fr st fr' st'∧I m fr' st') (hround:∀ m fr st,I m fr st→gC C b [] (D3 ks fr) st (KS C I m K P)):gL C ks b K fr st P:=by
 obtain ⟨fr',st',hw,hi⟩:=hi
 refine aO0 I m fr' st' hw hi hm fun m fr st h=>?_
 have h1:=hround m fr st h
 have:(fun ex fr st=>gK C [] ex fr st (KS C I m K P))=aK3 C I m fun ex fr st=>gK C K ex fr st P:=by
  funext ex f t
  cases ex<;>rfl
 unfold gC at h1
 rw[this] at h1
 exact h1
def aK5 (C:D0) (o:Option (List V)) (st:l9) (v:V) (st1:l9):Prop:=∃ vs,o=some vs∧M9 C [(0,O4 vs)] st [(0,v)] st1
theorem EX (C:D0) (res v st1):qL C res v st1 .ret fr st=aK5 C (L2 C fr st res) st v st1:=(rfl)
theorem pV (C:D0) (res v st1):qL C res v st1 .normal fr st=aK5 C (L2 C fr st res) st v st1:=(rfl)
theorem zE (C:D0) (vs:List V) (st:l9) (v:V) (st1:l9):aK5 C (some vs) st v st1=M9 C [(0,O4 vs)] st [(0,v)] st1:=by
 apply propext
 constructor
 ·rintro ⟨_,h,q⟩;cases h;exact q
 ·exact fun q=>⟨_,rfl,q⟩
end
def scO (x:Option Value):Option V:=x.map .sc
theorem QM (x:Value):scO (some x)=some (.sc x):=(rfl)
theorem bQ2 (v:V):vp (some v)=some (v,none,[]):=(rfl)
def YX:Option V→Option V→Option V→Option V
 |some (.sc (.bool t)),a,b=>if t then a else b
 |_,_,_=>none
theorem ZA (a b:Option V):YX (some (.sc (.bool true))) a b=a:=(rfl)
theorem YZ (a b:Option V):YX (some (.sc (.bool false))) a b=b:=(rfl)
theorem YY (t:Bool) (a b:Option V):YX (some (.sc (.bool t))) a b=if t then a else b:=(rfl)
def bE2 (nx:Nat) (t:TypeId) (v:V):VO:=(M6 v).bind fun cs=>some (.ptr nx 0,some (.box t 1 cs),[])
theorem LK (nx:Nat) (t:TypeId) (v:V) (h:Z8 v=true):bE2 nx t v=some (.ptr nx 0,some (.box t 1 [v]),[]):=by
 cases v<;>first|rfl|cases h
theorem LJ (nx:Nat) (t:TypeId) (l:List V) (h:l.all Z8=true):bE2 nx t (.agg l)=some (.ptr nx 0,some (.box t 1 l),[]):=by
 simp only[bE2,M6,h,if_true,Option.bind_some]
def HO (z:List Value) (ps:List (Nat × Nat × V)):VO:=if z.all C2 then vp ((aC (scL z) ps).map .agg) else none
theorem CJ (z:List Value) (ps:List (Nat × Nat × V)) (h:z.all C2=true):HO z ps=vp ((aC (scL z) ps).map .agg):=by simp only[HO,h,if_true]
theorem GN (cs:List V):aC cs []=some cs:=(rfl)
theorem aA {α:Type} (v:α):∀ (cs:List α) (k:Nat),k<cs.length→E1 cs k [v]=some (cs.set k v)
 | [],k,h=>by simp at h
 |c::cs,0,h=>by cases cs<;>simp[E1]
 |c::cs,k+1,h=>by simp[E1,aA v cs k (by simpa using h)]
theorem gF (v:V) (h:Z8 v=true):M6 v=some [v]:=by cases v<;>first|rfl|cases h
theorem GO (cs:List V) (o:Nat) (v:V) (r:List (Nat × Nat × V)) (hv:Z8 v=true) (ho:o<cs.length):aC cs ((o,1,v)::r)=aC (cs.set o v) r:=by
 simp only[aC,gF v hv,Option.bind_some,List.length_singleton]
 rw[if_pos (by simp only[Bool.and_eq_true,Nat.ble_eq];exact ⟨rfl,by omega⟩),aA _ _ _ ho]
 rfl
def UZ (l:List V) (o:Nat) (m:List V):List V:=l.take o++m++l.drop (o+m.length)
theorem pQ {α:Type}:∀ (cs:List α) (k:Nat) (vs:List α),k+vs.length≤cs.length→E1 cs k vs=some (cs.take k++vs++cs.drop (k+vs.length))
 |cs,k,[],h=>by
  have:E1 cs k []=some cs:=by cases cs<;>cases k<;>rfl
  rw[this];simp
 | [],k,v::vs,h=>by simp at h
 |c::cs,0,v::vs,h=>by
  simp only[List.length_cons] at h
  simp only[E1,pQ cs 0 vs (by omega),List.take_zero,List.nil_append,Option.map_some,Option.some.injEq,List.cons_append,List.length_cons,Nat.zero_add]
  rfl
 |c::cs,k+1,v::vs,h=>by
  simp only[List.length_cons] at h
  simp only[E1,pQ cs k (v::vs) (by simp;omega),Option.map_some,Option.some.injEq,List.length_cons]
  rw[show k+1+(vs.length+1)=(k+(vs.length+1))+1 by omega]
  rfl
theorem GM (cs:List V) (o n:Nat) (l:List V) (r:List (Nat × Nat × V)) (hl:l.all Z8=true) (hn:Nat.beq l.length n=true) (ho:Nat.ble (o+n) cs.length=true):aC cs ((o,n,.agg l)::r)=aC (UZ cs o l) r:=by
 simp only[aC,M6,hl,if_true,Option.bind_some]
 have hn':=f8.1 hn
 rw[if_pos (by rw[hn,ho];rfl),pQ _ _ _ (by rw[Nat.ble_eq] at ho;omega)]
 rfl
def N8 (nx:Nat) (t:TypeId) (e n:Nat) (z:List Value) (ps:List (Nat × Nat × V)):VO:=
 if (rep z n).all C2 && Nat.blt n v7 then (match iL (BI (rep z n)) ps with
   |some cs=>some (.ref nx 0 n n,some (.row t e false false cs),[])
   |none=>(aC (scL (rep z n)) ps).bind fun cs=>some (.ref nx 0 n n,some (.box t e cs),[])) else none
theorem aD4 (cs:List D) (o:Nat) (v:V) (d:D) (r:List (Nat × Nat × V)) (hv:Z8 v=true) (hd:RD v=some d) (ho:o<cs.length):iL cs ((o,1,v)::r)=iL (cs.set o d) r:=by
 simp only[iL,gF v hv,Option.bind_some,GA,hd,Option.map_some,List.length_singleton]
 rw[if_pos (by simp only[Bool.and_eq_true,Nat.ble_eq];exact ⟨rfl,by omega⟩),aA _ _ _ ho]
 rfl
theorem bP6 (nx:Nat) (t:TypeId) (e:Nat) (z:List Value):N8 nx t e 0 z []=some (.ref nx 0 0 0,some (.row t e false false []),[]):=(rfl)
theorem QD (nx:Nat) (t:TypeId) (z:Value) (hz:C2 z=true) (x:Value):N8 nx t 1 1 [z] [(0,1,.sc x)]=some (.ref nx 0 1 1,some (.row t 1 false false [.sc x]),[]):=by
 unfold N8
 rw[if_pos (by simp[rep,hz,v7])]
 rfl
theorem QE (nx:Nat) (t:TypeId) (z:Value) (hz:C2 z=true) (s n:Nat) (l:List D) (h:KO (.sl s n l)=true):N8 nx t 1 1 [z] [(0,1,.sl s n l)]=some (.ref nx 0 1 1,some (.row t 1 false false [.sl s n l]),[]):=by
 have h1:((rep [z] 1).all C2 && Nat.blt 1 v7)=true:=by simp[rep,hz,v7]
 have h2:iL (BI (rep [z] 1)) [(0,1,V.sl s n l)]=some [.sl s n l]:=by
  rw[aD4 _ _ _ (.sl s n l) _ rfl (by simp only[RD,h,if_true]) (by simp[BI,rep])]
  simp[BI,rep,iL]
 simp only[N8,h1,if_true,h2]
theorem EY (nx:Nat) (t:TypeId) (z:Value) (hz:C2 z=true) (o k n c:Nat):N8 nx t 1 1 [z] [(0,1,.ref o k n c)]=some (.ref nx 0 1 1,some (.box t 1 [.ref o k n c]),[]):=by
 unfold N8
 rw[if_pos (by simp[rep,hz,v7])]
 rfl
theorem QC (nx:Nat) (t:TypeId) (z:Value) (hz:C2 z=true) (s o n:Nat):N8 nx t 1 1 [z] [(0,1,.gr s o n)]=some (.ref nx 0 1 1,some (.box t 1 [.gr s o n]),[]):=by
 unfold N8
 rw[if_pos (by simp[rep,hz,v7])]
 rfl
def cO (old:Nat→Nat→Option Value) (H:E7) (g:Option Nat) (v:Option V):Option V:=v.bind (cN old H g)
def yD (k:Nat) (g:Option Nat):Option Obj→Option V
 |some (.box _ _ l)=>vM l k g
 |some (.row _ _ _ _ l)=>C8 l k g
 |some (.gro _ _ _ l)=>C8 l k g
 |none=>none
theorem AV (old:Nat→Nat→Option Value) (H:E7) (g:Option Nat) (o k:Nat):cO old H g (some (.ptr o k))=yD k g (f7 H o):=by
 simp only[cO,Option.bind_some,cN,yD]
 cases f7 H o with
 |none=>rfl
 |some ob=>cases ob<;>rfl
theorem GR (old:Nat→Nat→Option Value) (H:E7) (g:Option Nat) (l:List D) (k:Nat):cO old H g (some (.dp l k))=C8 l k g:=(rfl)
theorem yE (k:Nat) (g:Option Nat) (t e:Nat) (l:List V):yD k g (some (.box t e l))=vM l k g:=(rfl)
theorem yG (k:Nat) (g:Option Nat) (t e:Nat) (a b:Bool) (l:List D):yD k g (some (.row t e a b l))=C8 l k g:=(rfl)
theorem yF (k:Nat) (g:Option Nat) (t e:Nat) (a:Bool) (l:List D):yD k g (some (.gro t e a l))=C8 l k g:=(rfl)
theorem vN (l:List V) (k:Nat):vM l k none=B1 l k:=(rfl)
theorem vO (l:List V) (k n:Nat):vM l k (some n)=(B8 (l.drop k) n).map .agg:=(rfl)
theorem qU {α:Type} [Inhabited α] (f:α→D) (l:List α) (k:Nat) (hk:k<l.length):C8 (l.map f) k none=some (dv (f l[k]!)):=by
 simp only[C8,x7,List.getElem?_map,List.getElem?_eq_getElem hk,Option.map_some]
 rw[getElem!_pos l k hk]
theorem bO1 (x:Value):dv (.sc x)= .sc x:=(rfl)
theorem bO2 (s n:Nat) (l:List D):dv (.sl s n l)= .sl s n l:=(rfl)
theorem qW {α:Type} (f:α→List D) (e:Nat):∀ (l:List α) (k:Nat),(∀ x ∈ l,(f x).length=e)→k≤l.length→(l.flatMap f).drop (k*e)=(l.drop k).flatMap f
 |l,0,_,_=>by simp
 | [],k+1,_,h=>by simp at h
 |x::l,k+1,hf,h=>by
  have hx:=hf x List.mem_cons_self
  rw[List.flatMap_cons,Nat.succ_mul,List.drop_succ_cons,← qW f e l k (fun y hy=>hf y (List.mem_cons_of_mem _ hy)) (by simpa using h)]
  rw[Nat.add_comm,List.drop_append,List.drop_eq_nil_of_le (by omega),List.nil_append,show e+k*e - (f x).length=k*e by omega]
theorem wH {α:Type} [Inhabited α] (f:α→List D) (e:Nat) (l:List α) (hf:∀ x,(f x).length=e) (he:e ≠ 0) (k:Nat) (hk:k<l.length):C8 (l.flatMap f) (k*e) (some e)=some (.agg (dvL (f l[k]!))):=by
 have h1:(l.flatMap f).drop (k*e)=f l[k]! ++(l.drop (k+1)).flatMap f:=by
  rw[qW f e l k (fun x _=>hf x) (Nat.le_of_lt hk),List.drop_eq_getElem_cons hk,List.flatMap_cons,getElem!_pos l k hk]
 simp only[C8]
 rw[if_neg (by rw[f8];exact he),h1,V0 _ _ (by rw[List.length_append,hf];omega),List.take_left' (hf _)]
 rfl
theorem sY {α:Type} [Inhabited α] (f:α→List D) (e:Nat) (l:List α) (hf:∀ x,(f x).length=e) (k j:Nat) (hk:k<l.length) (hj:j<e):C8 (l.flatMap f) (k*e+j) none=(B1 (f l[k]!) j).map dv:=by
 have h1:(l.flatMap f).drop (k*e)=f l[k]! ++(l.drop (k+1)).flatMap f:=by
  rw[qW f e l k (fun x _=>hf x) (Nat.le_of_lt hk),List.drop_eq_getElem_cons hk,List.flatMap_cons,getElem!_pos l k hk]
 simp only[C8,x7]
 congr 1
 have:(l.flatMap f)[k*e+j]? =((l.flatMap f).drop (k*e))[j]? :=by rw[List.getElem?_drop]
 rw[this,h1,List.getElem?_append_left (by rw[hf];exact hj)]
def pH:V→Option V
 | .ptr o k=>some (.ptr o k)
 | .dp l o=>some (.dp l o)
 | .fn f a b=>some (.fn f a b)
 | .ifc t v=>some (.ifc t v)
 | .sc (.iface t v)=>some (.sc (.iface t v))
 | .sc (.func (.func f) a b)=>some (.sc (.func (.func f) a b))
 | .sc (.pointer (some a))=>some (.sc (.pointer (some a)))
 |_=>none
theorem tP (o k:Nat):pH (.ptr o k)=some (.ptr o k):=(rfl)
theorem xZ (l:List D) (o:Nat):pH (.dp l o)=some (.dp l o):=(rfl)
theorem yA (f:FuncId) (a b:List V):pH (.fn f a b)=some (.fn f a b):=(rfl)
def bR0 (op:BinOp):V→V→Option V
 | .sc a,.sc b=>scO (K7 op a b)
 |_,_=>none
theorem WK (op:BinOp) (a b:Value):bR0 op (.sc a) (.sc b)=scO (K7 op a b):=(rfl)
def bR6 (neg:Bool):V→V→Option V
 | .sc (.bool a),.sc (.bool b)=>some (.sc (.bool (if neg then !(a==b) else a==b)))
 |_,_=>none
def rB (k:Nat) (neg:Bool) (a b:V):Option V:=(I7 k a).bind fun p=>(I7 k b).bind fun q=>if p||q then some (.sc (.bool (if neg then !(p && q) else p && q))) else none
theorem wL (neg:Bool) (a:V) (p:Bool) (h:I7 1 a=some p):rB 1 neg a (.sc (.slice none 0 0))=some (.sc (.bool (if neg then !p else p))):=by
 have:I7 1 (.sc (.slice none 0 0))=some true:=(rfl)
 simp only[rB,h,this,Option.bind_some,Bool.or_true,if_true,Bool.and_true]
def unV (op:UnOp):V→Option V
 | .sc a=>scO (unA op a)
 |_=>none
theorem bA1 (op:UnOp) (a:Value):unV op (.sc a)=scO (unA op a):=(rfl)
def TO (k:IntKind):V→Option V
 | .sc (.int _ n)=>some (.sc (.int k (k.wrap n)))
 |_=>none
theorem CO (k j:IntKind) (n:Int):TO k (.sc (.int j n))=some (.sc (.int k (k.wrap n))):=(rfl)
def aN0:V→Option V
 | .sc (.string s)=>some (.sc (.string s))
 |_=>none
def aK8 (H:E7) (v:V):Option V:=if okV v then (W1 v).bind fun n=>(J8 H 1 n v).bind fun l=>if !l.2.isEmpty then none else (A7 l.1).bind fun bs=>some (.sc (.string ⟨bs.toArray⟩)) else none
def xX (nx:Nat) (t:TypeId) (e b:Nat) (z:List Value):V→V→VO
 | .sc (.int _ l),.sc (.int _ c)=>if 0≤l∧l≤c∧c*b≤r6∧c≤r6∧(rep z c.toNat).all C2=true then some (.ref nx 0 l.toNat c.toNat,some (.row t e false false (BI (rep z c.toNat))),[]) else none
 |_,_=>none
theorem bJ2 (z:Value) (n:Nat):BI (rep [z] n)=List.replicate n (.sc z):=by
 rw[JL];simp[BI]
theorem pE (nx:Nat) (t:TypeId) (b:Nat) (z:Value) (hz:C2 z=true) (k j:IntKind) (l c:Int) (h0:0≤l) (h1:l≤c) (h2:c*b≤1099511627776) (h3:c≤1099511627776):
  xX nx t 1 b [z] (.sc (.int k l)) (.sc (.int j c))=some (.ref nx 0 l.toNat c.toNat,some (.row t 1 false false (List.replicate c.toNat (.sc z))),[]):=by
 simp only[xX]
 rw[if_pos ⟨h0,h1,h2,h3,by rw[JL];simp[hz]⟩,bJ2]
def uA (lo hi:Option Value):V→Option V
 | .sc (.string t)=>(r7 hi t.size t.size).bind fun h=>(r7 lo 0 h).bind fun l=>some (.sc (.string (t.extract l h)))
 |_=>none
def bP8 (n e:Nat) (lo hi:Option Value):V→Option V
 | .ptr o k=>if Nat.blt n v7 then aE e lo hi none (.ref o k n n) else none
 |_=>none
def XD (o:Nat):V→Option V
 | .ptr i k=>some (.ptr i (k+o))
 | .dp l k=>some (.dp l (k+o))
 | .sc (.pointer (some a))=>some (.sc (.pointer (some (y5 a o))))
 |_=>none
theorem DE (o i k:Nat):XD o (.ptr i k)=some (.ptr i (k+o)):=(rfl)
theorem MU (o:Nat) (l:List D) (k:Nat):XD o (.dp l k)=some (.dp l (k+o)):=(rfl)
def XE (o:Nat) (n:Option Nat):V→Option V
 | .agg cs=>match n with
   |none=>B1 cs o
   |some n=>(B8 (cs.drop o) n).map .agg
 |_=>none
theorem wQ (o:Nat) (cs:List V):XE o none (.agg cs)=B1 cs o:=(rfl)
theorem wR (o n:Nat) (cs:List V):XE o (some n) (.agg cs)=(B8 (cs.drop o) n).map .agg:=(rfl)
def iY (e:Nat):V→V→Option V
 | .ref o k n _,.sc i=>(x5 i n).map fun i=> .ptr o (k+i*e)
 | .gr _ o n,.sc i=>(x5 i n).map fun i=> .ptr o (i*e)
 | .sl _ n l,.sc i=>(x5 i n).map fun i=> .dp l (i*e)
 | .slk _ n _ l,.sc i=>(x5 i n).map fun i=> .dp l (i*e)
 |_,_=>none
theorem DO (e o k n c:Nat) (kd:IntKind) (i:Int) (h0:0≤i) (h1:i<n):iY e (.ref o k n c) (.sc (.int kd i))=some (.ptr o (k+i.toNat*e)):=by simp only[iY,dT kd i n h0 h1,Option.map_some]
theorem NY (e s o n:Nat) (kd:IntKind) (i:Int) (h0:0≤i) (h1:i<n):iY e (.gr s o n) (.sc (.int kd i))=some (.ptr o (i.toNat*e)):=by simp only[iY,dT kd i n h0 h1,Option.map_some]
theorem NZ (e s n:Nat) (l:List D) (kd:IntKind) (i:Int) (h0:0≤i) (h1:i<n):iY e (.sl s n l) (.sc (.int kd i))=some (.dp l (i.toNat*e)):=by simp only[iY,dT kd i n h0 h1,Option.map_some]
def DM (n e:Nat):V→V→Option V
 | .ptr o k,.sc i=>(x5 i n).map fun i=> .ptr o (k+i*e)
 | .dp l k,.sc i=>(x5 i n).map fun i=> .dp l (k+i*e)
 | .sc (.pointer (some a)),.sc i=>(x5 i n).map fun i=> .sc (.pointer (some (y5 a (i*e))))
 |_,_=>none
theorem DN (n e o k:Nat) (kd:IntKind) (i:Int) (h0:0≤i) (h1:i<n):DM n e (.ptr o k) (.sc (.int kd i))=some (.ptr o (k+i.toNat*e)):=by simp only[DM,dT kd i n h0 h1,Option.map_some]
def uP:V→V→Option V
 | .sc (.string t),.sc i=>(x5 i t.size).bind fun i=>(B1 t.data.toList i).bind fun b=>some (.sc (.int .u8 b.toNat))
 |_,_=>none
def xF (n e:Nat) (g:Option Nat):V→V→Option V
 | .agg cs,.sc i=>(x5 i n).bind fun i=>match g with
   |none=>B1 cs (i*e)
   |some m=>(B8 (cs.drop (i*e)) m).map .agg
 |_,_=>none
def bR7 (i:Nat):V→Option V
 | .tup vs=>B1 vs i
 |_=>none
theorem MS (i:Nat) (vs:List V):bR7 i (.tup vs)=B1 vs i:=(rfl)
def bP0 (t:TypeId):V→Option V
 | .sc v=>some (.sc (.iface t v))
 |v=>some (.ifc t v)
theorem ON (t:TypeId) (v:Value):bP0 t (.sc v)=some (.sc (.iface t v)):=(rfl)
def pA (t:Bool) (x:V):Option V:=if t then (match x with| .sc (.string b)=>some (.sc (.int .i64 b.size))|_=>none) else (W1 x).map fun n=> .sc (.int .i64 n)
theorem OJ (s n:Nat) (l:List D):pA false (.sl s n l)=some (.sc (.int .i64 n)):=(rfl)
theorem DZ (o k n c:Nat):pA false (.ref o k n c)=some (.sc (.int .i64 n)):=(rfl)
theorem OI (s o n:Nat):pA false (.gr s o n)=some (.sc (.int .i64 n)):=(rfl)
theorem EA (s n c:Nat) (l:List D):pA false (.slk s n c l)=some (.sc (.int .i64 n)):=(rfl)
theorem DY (n c:Nat):pA false (.sc (.slice none n c))=some (.sc (.int .i64 0)):=(rfl)
theorem EB (b:ByteArray):pA true (.sc (.string b))=some (.sc (.int .i64 b.size)):=(rfl)
def mmV (g:Bool):V→V→Option V
 | .sc (.int k a),.sc (.int _ b)=>some (.sc (.int k (if g then (if b>a then b else a) else if b<a then b else a)))
 |_,_=>none
def aO2 (neg lit:Bool) (ts:List TypeId):V→V→Option V
 | .sc a,.sc b=>(wJ lit ts a b).map fun r=> .sc (.bool (if neg then !r else r))
 | .ifc _ _,.sc .nilIface=>some (.sc (.bool neg))
 |_,_=>none
theorem MN (neg lit:Bool) (ts:List TypeId) (a b:Value):aO2 neg lit ts (.sc a) (.sc b)=(wJ lit ts a b).map fun r=> .sc (.bool (if neg then !r else r)):=(rfl)
section
variable (old:Nat→Nat→Option Value) (fr:E0) (H:E7) (nx:Nat)
theorem aV6 (x:Operand):f5 old fr H nx (.mov x)=vp (o8 fr x):=(rfl)
theorem ZL (c x y:Operand):f5 old fr H nx (.pick c x y)=vp (YX (o8 fr c) (o8 fr x) (o8 fr y)):=by
 simp only[f5]
 cases o8 fr c with
 |none=>rfl
 |some v=>
  simp only[Option.bind_some]
  cases v with
  |sc u=>cases u with
   |bool t=>cases t<;>rfl
   |_=>rfl
  |_=>rfl
theorem PF (t:TypeId) (z:List (Nat × Value)) (h:(U5 z).all C2=true):f5 old fr H nx (.alloc t z)=some (.ptr nx 0,some (.box t 1 (scL (U5 z))),[]):=by simp only[f5,h,if_true]
theorem aV1 (t:TypeId) (x:Operand):f5 old fr H nx (.box t x)=kY (bE2 nx t) (o8 fr x):=(rfl)
theorem PH (z:List Value) (ps:List (Nat × Nat × Operand)):f5 old fr H nx (.build z ps)=kY (HO z) (K5 fr ps):=by
 simp only[f5,kY]
 cases K5 fr ps with
 |none=>split<;>rfl
 |some v=>simp only[Option.bind_some,HO]
theorem PN (t:TypeId) (e n:Nat) (z:List Value) (ps:List (Nat × Nat × Operand)):f5 old fr H nx (.mkRow t e n z ps)=kY (N8 nx t e n z) (K5 fr ps):=by
 simp only[f5,kY]
 cases K5 fr ps with
 |none=>split<;>rfl
 |some v=>simp only[Option.bind_some,N8];rfl
theorem ZI (g:Option Nat) (x:Operand):f5 old fr H nx (.load g x)=vp (cO old H g (o8 fr x)):=by
 simp only[f5,cO]
 cases o8 fr x<;>rfl
theorem EO (x:Operand):f5 old fr H nx (.nilChk x)=vp (kY pH (o8 fr x)):=by
 simp only[f5,kY]
 cases o8 fr x with
 |none=>rfl
 |some v=>
  simp only[Option.bind_some]
  unfold pH
  split<;>first|rfl|(split<;>first|rfl|(exfalso;simp_all;done))
theorem aV0 (op:BinOp) (x y:Operand):f5 old fr H nx (.bin op x y)=vp (kZ (bR0 op) (o8 fr x) (o8 fr y)):=by
 simp only[f5,kZ]
 cases o8 fr x with
 |none=>rfl
 |some a=>cases o8 fr y with
  |none=>rfl
  |some b=>
   simp only[Option.bind_some]
   unfold bR0
   split<;>first|rfl|(split<;>first|rfl|(exfalso;simp_all;done))
theorem aV3 (g:Bool) (x y:Operand):f5 old fr H nx (.eqB g x y)=vp (kZ (bR6 g) (o8 fr x) (o8 fr y)):=by
 simp only[f5,kZ]
 cases o8 fr x with
 |none=>rfl
 |some a=>cases o8 fr y with
  |none=>rfl
  |some b=>
   simp only[Option.bind_some]
   unfold bR6
   split<;>first|rfl|(split<;>first|rfl|(exfalso;simp_all;done))
theorem PL (k:Nat) (g:Bool) (x y:Operand):f5 old fr H nx (.eqNil k g x y)=vp (kZ (rB k g) (o8 fr x) (o8 fr y)):=by
 simp only[f5,kZ]
 cases o8 fr x with
 |none=>rfl
 |some a=>cases o8 fr y with
  |none=>rfl
  |some b=>
   simp only[Option.bind_some,rB]
   cases I7 k a with
   |none=>rfl
   |some p=>cases I7 k b with
    |none=>rfl
    |some q=>simp only[Option.bind_some];split<;>rfl
theorem bP5 (op:UnOp) (x:Operand):f5 old fr H nx (.un op x)=vp (kY (unV op) (o8 fr x)):=by
 simp only[f5,kY]
 cases o8 fr x with
 |none=>rfl
 |some v=>simp only[Option.bind_some];unfold unV;split<;>first|rfl|(split<;>first|rfl|(exfalso;simp_all;done))
theorem PI (k:IntKind) (x:Operand):f5 old fr H nx (.convI k x)=vp (kY (TO k) (o8 fr x)):=by
 simp only[f5,kY]
 cases o8 fr x with
 |none=>rfl
 |some v=>simp only[Option.bind_some];unfold TO;split<;>first|rfl|(split<;>first|rfl|(exfalso;simp_all;done))
theorem PJ (x:Operand):f5 old fr H nx (.convS x)=vp (kY aN0 (o8 fr x)):=by
 simp only[f5,kY]
 cases o8 fr x with
 |none=>rfl
 |some v=>simp only[Option.bind_some];unfold aN0;split<;>first|rfl|(split<;>first|rfl|(exfalso;simp_all;done))
theorem aU9 (x:Operand):f5 old fr H nx (.b2s x)=vp (kY (aK8 H) (o8 fr x)):=by
 simp only[f5,kY]
 cases o8 fr x with
 |none=>rfl
 |some v=>
  simp only[Option.bind_some,aK8]
  split
  ·cases W1 v with
   |none=>rfl
   |some n=>
    simp only[Option.bind_some]
    cases J8 H 1 n v with
    |none=>rfl
    |some l=>
     simp only[Option.bind_some]
     split
     ·rfl
     ·cases A7 l.1<;>rfl
  ·rfl
theorem yT (t:TypeId) (e b:Nat) (z:List Value) (x y:Operand):f5 old fr H nx (.mkSlice t e b z x y)=kZ (xX nx t e b z) (o8 fr x) (o8 fr y):=by
 simp only[f5,kZ]
 cases o8 fr x with
 |none=>rfl
 |some a=>cases o8 fr y with
  |none=>rfl
  |some b=>
   simp only[Option.bind_some]
   cases a with
   |sc u=>cases u<;>first|rfl|(cases b with|sc v=>cases v<;>rfl|_=>rfl)
   |_=>rfl
def zO (f:Option Value→Option Value→V→Option V) (lo hi:Option (Option Value)) (x:Option V):Option V:=x.bind fun x=>lo.bind fun lo=>hi.bind fun hi=>f lo hi x
theorem zP (f:Option Value→Option Value→V→Option V) (lo hi:Option Value) (x:V):zO f (some lo) (some hi) (some x)=f lo hi x:=(rfl)
theorem ZN (x:Operand) (lo hi:Option Operand):f5 old fr H nx (.slcS x lo hi)=vp (zO (fun lo hi=>uA lo hi) (V8 fr lo) (V8 fr hi) (o8 fr x)):=by
 simp only[f5,zO]
 cases o8 fr x with
 |none=>rfl
 |some a=>cases V8 fr lo with
  |none=>rfl
  |some l=>cases V8 fr hi with
   |none=>rfl
   |some h=>
    simp only[Option.bind_some]
    cases a with
    |sc u=>cases u with
     |string t=>
      simp only[uA]
      cases r7 h t.size t.size with
      |none=>rfl
      |some i=>simp only[Option.bind_some];cases r7 l 0 i<;>rfl
     |_=>rfl
    |_=>rfl
theorem aV7 (e:Nat) (x:Operand) (lo hi mx:Option Operand):f5 old fr H nx (.slc e x lo hi mx)=vp ((V8 fr mx).bind fun mx=>zO (fun lo hi=>aE e lo hi mx) (V8 fr lo) (V8 fr hi) (o8 fr x)):=by
 simp only[f5,zO]
 cases o8 fr x with
 |none=>cases V8 fr mx<;>rfl
 |some a=>cases V8 fr lo with
  |none=>cases V8 fr mx<;>rfl
  |some l=>cases V8 fr hi with
   |none=>cases V8 fr mx<;>rfl
   |some h=>cases V8 fr mx<;>rfl
theorem ZM (n e:Nat) (x:Operand) (lo hi:Option Operand):f5 old fr H nx (.slcA n e x lo hi)=vp (zO (fun lo hi=>bP8 n e lo hi) (V8 fr lo) (V8 fr hi) (o8 fr x)):=by
 simp only[f5,zO]
 cases o8 fr x with
 |none=>rfl
 |some a=>cases V8 fr lo with
  |none=>rfl
  |some l=>cases V8 fr hi with
   |none=>rfl
   |some h=>
    simp only[Option.bind_some]
    cases a with
    |ptr o k=>simp only[bP8];split<;>rfl
    |_=>rfl
theorem ZD (o:Nat) (x:Operand):f5 old fr H nx (.fldA o x)=vp (kY (XD o) (o8 fr x)):=by
 simp only[f5,kY]
 cases o8 fr x with
 |none=>rfl
 |some v=>simp only[Option.bind_some];unfold XD;split<;>first|rfl|(split<;>first|rfl|(exfalso;simp_all;done))
theorem ZE (o:Nat) (n:Option Nat) (x:Operand):f5 old fr H nx (.fldV o n x)=vp (kY (XE o n) (o8 fr x)):=by
 simp only[f5,kY]
 cases o8 fr x with
 |none=>rfl
 |some v=>simp only[Option.bind_some];unfold XE;split<;>first|(split<;>first|rfl|(exfalso;simp_all;done))|rfl
theorem ZG (e:Nat) (x i:Operand):f5 old fr H nx (.idxS e x i)=vp (kZ (iY e) (o8 fr x) (o8 fr i)):=by
 simp only[f5,kZ]
 cases o8 fr x with
 |none=>rfl
 |some a=>cases o8 fr i with
  |none=>rfl
  |some b=>
   simp only[Option.bind_some]
   cases b with
   |sc b=>
    cases a<;>first|rfl|(rename_i n _;simp only[iY];cases x5 b n<;>rfl)|(rename_i n _ _;simp only[iY];cases x5 b n<;>rfl)|(rename_i n;simp only[iY];cases x5 b n<;>rfl)
   |_=>cases a<;>rfl
theorem ZF (n e:Nat) (x i:Operand):f5 old fr H nx (.idxA n e x i)=vp (kZ (DM n e) (o8 fr x) (o8 fr i)):=by
 simp only[f5,kZ]
 cases o8 fr x with
 |none=>rfl
 |some a=>cases o8 fr i with
  |none=>rfl
  |some b=>
   simp only[Option.bind_some]
   cases b with
   |sc b=>
    cases a with
    |ptr o k=>simp only[DM];cases x5 b n<;>rfl
    |dp l k=>simp only[DM];cases x5 b n<;>rfl
    |sc u=>cases u with
     |pointer p=>cases p with
      |none=>rfl
      |some a=>simp only[DM];cases x5 b n<;>rfl
     |_=>rfl
    |_=>rfl
   |_=>cases a with
    |sc u=>cases u with
     |pointer p=>cases p<;>rfl
     |_=>rfl
    |_=>rfl
theorem EM (x i:Operand):f5 old fr H nx (.idxStr x i)=vp (kZ uP (o8 fr x) (o8 fr i)):=by
 simp only[f5,kZ]
 cases o8 fr x with
 |none=>rfl
 |some a=>cases o8 fr i with
  |none=>rfl
  |some b=>
   simp only[Option.bind_some]
   cases a with
   |sc u=>cases u with
    |string t=>cases b with
     |sc i=>
      simp only[uP]
      cases x5 i t.size with
      |none=>rfl
      |some j=>simp only[Option.bind_some];cases B1 t.data.toList j<;>rfl
     |_=>rfl
    |_=>rfl
   |_=>rfl
theorem ZH (n e:Nat) (g:Option Nat) (x i:Operand):f5 old fr H nx (.idxV n e g x i)=vp (kZ (xF n e g) (o8 fr x) (o8 fr i)):=by
 simp only[f5,kZ]
 cases o8 fr x with
 |none=>rfl
 |some a=>cases o8 fr i with
  |none=>rfl
  |some b=>
   simp only[Option.bind_some]
   cases a with
   |agg cs=>cases b with
    |sc i=>
     simp only[xF]
     cases x5 i n with
     |none=>rfl
     |some j=>simp only[Option.bind_some];cases g<;>rfl
    |_=>rfl
   |_=>rfl
theorem aV4 (x:Operand) (i:Nat):f5 old fr H nx (.ext x i)=vp (kY (bR7 i) (o8 fr x)):=by
 simp only[f5,kY]
 cases o8 fr x with
 |none=>rfl
 |some v=>simp only[Option.bind_some];unfold bR7;split<;>first|rfl|(split<;>first|rfl|(exfalso;simp_all;done))
def YP (f:FuncId) (a b:List V):Option V:=some (.fn f a b)
theorem ZJ (f:FuncId) (a b:List Operand):f5 old fr H nx (.mkFn f a b)=vp (kZ (YP f) (W2 fr a) (W2 fr b)):=by
 simp only[f5,kZ,YP]
 cases W2 fr a with
 |none=>rfl
 |some x=>cases W2 fr b<;>rfl
theorem ZK (t:TypeId) (x:Operand):f5 old fr H nx (.mkIf t x)=vp (kY (bP0 t) (o8 fr x)):=by
 simp only[f5,kY]
 cases o8 fr x with
 |none=>rfl
 |some v=>simp only[Option.bind_some];cases v<;>rfl
theorem aV5 (t:Bool) (x:Operand):f5 old fr H nx (.len t x)=vp (kY (pA t) (o8 fr x)):=by
 simp only[f5,kY]
 cases o8 fr x with
 |none=>rfl
 |some v=>
  simp only[Option.bind_some]
  cases t with
  |true=>
   cases v with
   |sc u=>cases u<;>rfl
   |_=>rfl
  |false=>
   simp only[pA]
   cases W1 v<;>rfl
theorem bP4 (g:Bool) (x y:Operand):f5 old fr H nx (.mm g x y)=vp (kZ (mmV g) (o8 fr x) (o8 fr y)):=by
 simp only[f5,kZ]
 cases o8 fr x with
 |none=>rfl
 |some a=>cases o8 fr y with
  |none=>rfl
  |some b=>
   simp only[Option.bind_some]
   cases a with
   |sc u=>cases u<;>first|rfl|(cases b with|sc v=>cases v<;>rfl|_=>rfl)
   |_=>rfl
theorem aU8 (t:TypeId) (e b:Nat) (x y:Operand):f5 old fr H nx (.app t e b x y)=kZ (mJ H nx t e b) (o8 fr x) (o8 fr y):=(rfl)
def sA:V→Option V
 | .sc (.slice none _ _)=>some (.sc (.pointer none))
 | .ref o k _ c=>if Nat.beq c 0||Nat.beq c v7 then none else some (.ptr o k)
 | .gr _ o n=>if Nat.beq n 0 then none else some (.ptr o 0)
 |_=>none
theorem PO (x:Operand):f5 old fr H nx (.sdata x)=vp (kY sA (o8 fr x)):=by
 simp only[f5,kY]
 cases o8 fr x with
 |none=>rfl
 |some a=>
  simp only[Option.bind_some]
  cases a with
  |sc x=>cases x with
   |slice a n c=>cases a<;>rfl
   |_=>rfl
  |ref o k n c=>
   simp only[sA]
   by_cases h:(Nat.beq c 0||Nat.beq c v7)=true
   ·rw[if_pos h,if_pos h];rfl
   ·rw[if_neg h,if_neg h];rfl
  |gr s o n=>
   simp only[sA]
   by_cases h:Nat.beq n 0=true
   ·rw[if_pos h,if_pos h];rfl
   ·rw[if_neg h,if_neg h];rfl
  |_=>rfl
theorem zM (n c:Nat):sA (.sc (.slice none n c))=some (.sc (.pointer none)):=(rfl)
theorem FI (s o n:Nat) (h:n ≠ 0):sA (.gr s o n)=some (.ptr o 0):=by
 simp only[sA]
 rw[if_neg (by rw[f8];exact h)]
def AH (ob:Option Obj) (o k:Nat):Option V:=match ob with|some (.box _ _ l)=>if Nat.blt k l.length then some (.ptr o k) else none|_=>none
def VQ (H:E7):V→Option V
 | .sc (.pointer none)=>some (.sc (.pointer none))
 | .ptr o k=>AH (f7 H o) o k
 |_=>none
theorem PQ (x:Operand):f5 old fr H nx (.toUns x)=vp (kY (VQ H) (o8 fr x)):=by
 simp only[f5,kY]
 cases o8 fr x with
 |none=>rfl
 |some a=>
  simp only[Option.bind_some]
  cases a with
  |sc x=>cases x with
   |pointer a=>cases a<;>rfl
   |_=>rfl
  |ptr o k=>
   simp only[VQ,AH]
   cases f7 H o with
   |none=>rfl
   |some ob=>cases ob with
    |box t e l=>
     by_cases h:Nat.blt k l.length=true
     ·simp only[if_pos h];rfl
     ·simp only[if_neg h];rfl
    |_=>rfl
  |_=>rfl
theorem AG (o k:Nat):VQ H (.ptr o k)=AH (f7 H o) o k:=(rfl)
theorem AI (t e o k:Nat) (l:List V) (h:k<l.length):AH (some (.box t e l)) o k=some (.ptr o k):=by
 simp only[AH]
 rw[if_pos (by rw[Nat.blt_eq];exact h)]
def iR (t n:Nat) (ob:Option Obj) (o k:Nat):Option V:=match ob with|some (.box t' _ l)=>if Nat.beq t' t && Nat.beq k 0 && Nat.ble n l.length && Nat.blt 0 n then some (.ptr o k) else none|_=>none
def wU (H:E7) (t n:Nat):V→Option V
 | .sc (.pointer none)=>some (.sc (.pointer none))
 | .ptr o k=>iR t n (f7 H o) o k
 |_=>none
theorem yS (t n:Nat) (x:Operand):f5 old fr H nx (.fromUns t n x)=vp (kY (wU H t n) (o8 fr x)):=by
 simp only[f5,kY]
 cases o8 fr x with
 |none=>rfl
 |some a=>
  simp only[Option.bind_some]
  cases a with
  |sc x=>cases x with
   |pointer a=>cases a<;>rfl
   |_=>rfl
  |ptr o k=>
   simp only[wU,iR]
   cases f7 H o with
   |none=>rfl
   |some ob=>cases ob with
    |box t' e l=>
     by_cases h:(Nat.beq t' t && Nat.beq k 0 && Nat.ble n l.length && Nat.blt 0 n)=true
     ·simp only[if_pos h];rfl
     ·simp only[if_neg h];rfl
    |_=>rfl
  |_=>rfl
theorem oP (t n o k:Nat):wU H t n (.ptr o k)=iR t n (f7 H o) o k:=(rfl)
theorem oQ (t e n o:Nat) (l:List V) (h:n≤l.length) (h0:0<n):iR t n (some (.box t e l)) o 0=some (.ptr o 0):=by
 simp only[iR]
 rw[if_pos (by rw[Bool.and_eq_true,Bool.and_eq_true,Bool.and_eq_true,f8,f8,Nat.ble_eq,Nat.blt_eq];exact ⟨⟨⟨rfl,rfl⟩,h⟩,h0⟩)]
def rC (neg:Bool) (H:E7):V→V→Option V
 | .sc a,.sc b=>(iO a b).map fun r=> .sc (.bool (if neg then !r else r))
 | .sc (.pointer none),.ptr _ _=>some (.sc (.bool neg))
 | .ptr _ _,.sc (.pointer none)=>some (.sc (.bool neg))
 | .ptr o k,.ptr o' k'=>if o=o'∧(f7 H o).isSome then (match f7 H o with|some (.gro _ _ _ _)=>none|_=>some (.sc (.bool (if neg then !(Nat.beq k k') else Nat.beq k k')))) else none
 |_,_=>none
theorem PM (g:Bool) (x y:Operand):f5 old fr H nx (.eqPtr g x y)=vp (kZ (rC g H) (o8 fr x) (o8 fr y)):=by
 simp only[f5,kZ]
 cases o8 fr x with
 |none=>rfl
 |some a=>cases o8 fr y with
  |none=>rfl
  |some b=>
   simp only[Option.bind_some]
   cases a with
   |sc a=>cases b with
    |sc b=>simp only[rC];cases iO a b<;>rfl
    |ptr o k=>cases a with
     |pointer a=>cases a<;>rfl
     |_=>rfl
    |_=>cases a with
     |pointer a=>cases a<;>rfl
     |_=>rfl
   |ptr o k=>cases b with
    |sc b=>cases b with
     |pointer a=>cases a<;>rfl
     |_=>rfl
    |ptr o' k'=>
     simp only[rC]
     by_cases h:o=o'∧(f7 H o).isSome=true
     ·rw[if_pos h,if_pos h]
      cases f7 H o with
      |none=>rfl
      |some ob=>cases ob<;>rfl
     ·rw[if_neg h,if_neg h];rfl
    |_=>rfl
   |_=>rfl
theorem MP (g:Bool) (o k t e:Nat) (l:List V) (h:f7 H o=some (.box t e l)):rC g H (.ptr o k) (.ptr o k)=some (.sc (.bool (!g))):=by
 simp only[rC,h,Option.isSome_some,and_self,if_true,(f8 (i:=k) (j:=k)).2 rfl]
 cases g<;>rfl
theorem tC (g:Bool) (o k:Nat):rC g H (.ptr o k) (.sc (.pointer none))=some (.sc (.bool g)):=(rfl)
theorem PK (g:Bool) (ps:List (Nat × Nat)) (x y:Operand):f5 old fr H nx (.eqAgg g ps x y)=vp (kZ (qY g ps) (o8 fr x) (o8 fr y)):=by
 simp only[f5,kZ]
 cases o8 fr x with
 |none=>rfl
 |some a=>cases o8 fr y with
  |none=>rfl
  |some b=>simp only[Option.bind_some];cases qY g ps a b<;>rfl
def bG4 (g r:Bool):Bool:=if g then !r else r
theorem aS8 (r:Bool):bG4 true r= !r:=(rfl)
theorem aS7 (r:Bool):bG4 false r=r:=(rfl)
theorem mX (g:Bool) (ps:List (Nat × Nat)) (xs ys:List V):qY g ps (.agg xs) (.agg ys)=(U4 ps xs ys).map fun r=> .sc (.bool (bG4 g r)):=(rfl)
theorem fG (xs ys:List V):U4 [] xs ys=some true:=(rfl)
theorem dD (o c:Nat) (r:List (Nat × Nat)) (xs ys:List V):U4 ((o,c)::r) xs ys=HI (Y5 c (B1 xs o) (B1 ys o)) (U4 r xs ys):=(rfl)
theorem qN (p q:Bool):HI (some p) (some q)=some (p && q):=by cases p<;>rfl
theorem iN (k:IntKind) (a b:Int):Y5 0 (some (.sc (.int k a))) (some (.sc (.int k b)))=some (decide (a=b)):=by
 simp only[Y5,qZ,if_true]
 rfl
theorem fF (a b:Bool):Y5 2 (some (.sc (.bool a))) (some (.sc (.bool b)))=some (a==b):=(rfl)
theorem tA (a b:ByteArray):Y5 1 (some (.sc (.string a))) (some (.sc (.string b)))=some (a.toList==b.toList):=(rfl)
theorem ZC (g l:Bool) (ts:List TypeId) (x y:Operand):f5 old fr H nx (.eqIf g l ts x y)=vp (kZ (aO2 g l ts) (o8 fr x) (o8 fr y)):=by
 simp only[f5,kZ]
 cases o8 fr x with
 |none=>rfl
 |some a=>cases o8 fr y with
  |none=>rfl
  |some b=>
   simp only[Option.bind_some]
   cases a with
   |sc a=>cases b with
    |sc b=>simp only[aO2];cases wJ l ts a b<;>rfl
    |_=>rfl
   |ifc t a=>cases b with
    |sc b=>cases b<;>rfl
    |_=>rfl
   |_=>rfl
theorem PP (n:Nat) (a v:Operand):f5 old fr H nx (.store n a v)=none:=(rfl)
theorem ZB (e:Nat) (d s:Operand):f5 old fr H nx (.copy e d s)=none:=(rfl)
theorem ZO (t:TypeId) (p n:Operand):f5 old fr H nx (.ustr t p n)=none:=(rfl)
end
def aZ2 (st:l9) (n:Nat) (a v:V):Option (V × l9):=(KG st n a v).map fun st=>(.tup [],st)
theorem SP (fr:E0) (st:l9) (n:Nat) (a v:Operand):Q5 fr st (.store n a v)=kZ (aZ2 st n) (o8 fr a) (o8 fr v):=by
 simp only[Q5,kZ]
 rfl
theorem bC7 (fr:E0) (st:l9) (t:TypeId) (e b:Nat) (x y:Operand):Q5 fr st (.app t e b x y)=kZ (uG st t e b) (o8 fr x) (o8 fr y):=(rfl)
theorem aB8 (fr:E0) (st:l9) (e:Nat) (d x:Operand):Q5 fr st (.copy e d x)=kZ (aA1 st e) (o8 fr d) (o8 fr x):=(rfl)
theorem aB9 (fr:E0) (st:l9) (t:TypeId) (p n:Operand):Q5 fr st (.ustr t p n)=kZ (BA st t) (o8 fr p) (o8 fr n):=(rfl)
theorem OH (o k n c:Nat):Q9 (.ref o k n c)=some n:=(rfl)
theorem bG2 (s n:Nat) (l:List D):Q9 (.sl s n l)=some n:=(rfl)
theorem aS1 (s n c:Nat) (l:List D):Q9 (.slk s n c l)=some n:=(rfl)
theorem bG1 (s o n:Nat):Q9 (.gr s o n)=some n:=(rfl)
theorem aS2 (b:ByteArray):Q9 (.sc (.string b))=some b.size:=(rfl)
theorem bV9 (H:E7) (e s n:Nat) (l:List D) (h:l.length=n*e):J8 H e n (.sl s n l)=some (l,[]):=by
 simp only[J8]
 rw[if_pos ⟨h,Nat.le_refl _⟩,List.take_of_length_le (by omega)]
theorem bJ6 (H:E7) (e s n c:Nat) (l:List D) (h:l.length=n*e):J8 H e n (.slk s n c l)=some (l,[]):=by
 simp only[J8]
 rw[if_pos ⟨h,Nat.le_refl _⟩,List.take_of_length_le (by omega)]
theorem bJ7 (H:E7) (s:ByteArray):J8 H 1 s.size (.sc (.string s))=some (s.data.toList.map fun b=> .sc (.int .u8 b.toNat),[]):=by
 simp only[J8]
 rw[if_pos (by simp)]
 rw[List.take_of_length_le (by simp)]
section
variable {α:Type} [Inhabited α] [DecidableEq α]
theorem mB {P:Nat→Prop} {k:Nat} (h:∀ j,j<k→P j) (hk:P k):∀ j,j<k+1→P j:=fun j hj=>by
 rcases Nat.lt_succ_iff_lt_or_eq.1 hj with h'|rfl
 ·exact h j h'
 ·exact hk
end
theorem xS {α:Type} (l:List α):B8 l 0=some []:=by cases l<;>rfl
theorem xR {α:Type} (x:α) (l:List α) (n:Nat):B8 (x::l) (n+1)=(B8 l n).map (x::·):=rfl
theorem all_cons (x:Value) (l:List Value) (hx:A8 x=true) (hl:l.all A8=true):(x::l).all A8=true:=by simp[hx,hl]
theorem CA.one {lo:Nat} {s:St} {t:TypeId} {e:Nat} {v:Value} {n:Nat} {cs:List Value} (o:CA lo s t e v n cs):A8 v=true:=by
 rcases o.is with ⟨rfl,_⟩|⟨i,_,_,_,⟨rfl,_⟩|⟨rfl,_⟩⟩<;>rfl
def cI2:K8→Bool
 | .load _ _=>true
 | .store _ _ _=>true
 | .app _ _ _ _ _=>true
 | .copy _ _ _=>true
 |_=>false
section
variable {E:E6} {K:List KF} {fr f fr0:Fr} {s:St} {p n:Nat} {conc:List Nat} {hint:Option (List Nat)} {d:Option Nat} {l:List sN} {rs:List H2} {h:j8} {tail:List f9} {ks:List Nat} {V:VS}
theorem aI0 (d':Option Nat) (g:Option (Nat × Bool)) (o:K8):V6 E fr0 p ⟨⟨d',g,o⟩,conc,hint⟩ rs f h n=V6 E fr0 p ⟨⟨none,none,o⟩,conc,hint⟩ rs f h n:=by
 cases o<;>rfl
end
theorem cB9 (v w v' w':VS) (a b:NW):H2.ok ⟨v,w,a⟩ ⟨v',w',b⟩=(w.dis v' && w'.dis v && a.out v'):=rfl
theorem aN7 (a b:List Nat):(VS.only a).dis (.only b)=MK a b:=rfl
theorem aT4 (a c:Nat) (b:List Nat):(NW.rng a c).out (.only b)=yL a c b:=rfl

section
variable {α:Type}
theorem KX (i:Nat):f7 ([]:List (Nat × α)) i=none:=(rfl)
theorem LE (i:Nat) (v:α):qO [] i v= [(i,v)]:=(rfl)
theorem vK (i j:Nat) (u v:α) (r:List (Nat × α)):qO ((j,u)::r) i v=if i=j then (i,v)::r else if i<j then (i,v)::(j,u)::r else (j,u)::qO r i v:=by
 simp only[qO]
 by_cases h:i=j
 ·rw[if_pos (f8.2 h),if_pos h]
 ·rw[if_neg (by rw[f8];exact h),if_neg h]
  by_cases h2:i<j
  ·rw[if_pos (by rw[Nat.blt_eq];exact h2),if_pos h2]
  ·rw[if_neg (by rw[Nat.blt_eq];exact h2),if_neg h2]
theorem vJ (fr:List (Nat × α)) (i:Nat) (v:α):u6 fr (some i) v=qO fr i v:=(rfl)
theorem vH (fr:List (Nat × α)) (v:α):u6 fr none v=fr:=(rfl)
theorem LF (i:Nat) (v:α):A9 [] i v= []:=(rfl)
theorem J3 (i j:Nat) (u v:α) (r:List (Nat × α)):A9 ((j,u)::r) i v=if i=j then (j,v)::r else (j,u)::A9 r i v:=by
 simp only[A9]
 by_cases h:i=j
 ·rw[if_pos (f8.2 h),if_pos h]
 ·rw[if_neg (by rw[f8];exact h),if_neg h]
theorem KV (i:Nat):I2 i ([]:List (Nat × α))= []:=(rfl)
theorem bN (i j:Nat) (u:α) (r:List (Nat × α)):I2 i ((j,u)::r)=if i=j then I2 i r else (j,u)::I2 i r:=by
 simp only[I2]
 by_cases h:i=j
 ·rw[if_pos (f8.2 h),if_pos h]
 ·rw[if_neg (by rw[f8];exact h),if_neg h]
theorem CC (ks:List Nat):D3 ks ([]:List (Nat × α))= []:=(rfl)
theorem sO (ks:List Nat) (j:Nat) (v:α) (r:List (Nat × α)):D3 ks ((j,v)::r)=if l7 j ks=true then (j,v)::D3 ks r else D3 ks r:=(rfl)
end
theorem wV (fz:List Nat):C4 fz []= []:=(rfl)
theorem iS (fz:List Nat) (j:Nat) (o:Obj) (r:E7):C4 fz ((j,o)::r)=(j,if l7 j fz=true then o.froz else o)::C4 fz r:=(rfl)
theorem NA (t e:Nat) (g z:Bool) (l:List D):(Obj.row t e g z l).froz= .row t e g true l:=(rfl)
theorem MZ (t e:Nat) (z:Bool) (l:List D):(Obj.gro t e z l).froz= .gro t e true l:=(rfl)
theorem MY (t e:Nat) (l:List V):(Obj.box t e l).froz= .box t e l:=(rfl)
section
variable {fr:E0}
theorem aA7 (t:Nat):o8 fr (.tmp t)=f7 fr t:=(rfl)
theorem aA5 (k:IntKind) (n:Int):o8 fr (.const (.int k n))=some (.sc (.int k n)):=(rfl)
theorem RQ (b:Bool):o8 fr (.const (.bool b))=some (.sc (.bool b)):=(rfl)
theorem aA6 (b:ByteArray):o8 fr (.const (.string b))=some (.sc (.string b)):=(rfl)
theorem RV:o8 fr (.const (.slice none 0 0))=some (.sc (.slice none 0 0)):=(rfl)
theorem RU:o8 fr (.const (.pointer none))=some (.sc (.pointer none)):=(rfl)
theorem RT:o8 fr (.const .nilIface)=some (.sc .nilIface):=(rfl)
theorem RS:o8 fr (.const .nilFunc)=some (.sc .nilFunc):=(rfl)
theorem AS (g:Nat):o8 fr (.global g)=some (.sc (.pointer (some ⟨g,0,none⟩))):=(rfl)
theorem RR (f:FuncId):o8 fr (.func f)=some (.sc (.func (.func f) #[] #[])):=(rfl)
theorem RW:W2 fr []=some []:=(rfl)
def CN (a:Option V) (b:Option (List V)):Option (List V):=a.bind fun v=>b.bind fun vs=>some (v::vs)
theorem wA (a:V) (b:List V):CN (some a) (some b)=some (a::b):=(rfl)
theorem GL (x:Operand) (r:List Operand):W2 fr (x::r)=CN (o8 fr x) (W2 fr r):=(rfl)
def cB2 (a:Option V):Option (Option Value):=a.bind fun v=>match v with| .sc (.int k i)=>some (some (.int k i))|_=>none
theorem DP (k:IntKind) (i:Int):cB2 (some (.sc (.int k i)))=some (some (.int k i)):=(rfl)
theorem GJ:V8 fr none=some none:=(rfl)
theorem GK (x:Operand):V8 fr (some x)=cB2 (o8 fr x):=(rfl)
theorem qF:K5 fr []=some []:=(rfl)
def aM9 (o n:Nat) (a:Option V) (b:Option (List (Nat × Nat × V))):Option (List (Nat × Nat × V)):=a.bind fun v=>b.bind fun vs=>some ((o,n,v)::vs)
theorem sX (o n:Nat) (a:V) (b:List (Nat × Nat × V)):aM9 o n (some a) (some b)=some ((o,n,a)::b):=(rfl)
theorem mK (o n:Nat) (x:Operand) (r:List (Nat × Nat × Operand)):K5 fr ((o,n,x)::r)=aM9 o n (o8 fr x) (K5 fr r):=(rfl)
end
theorem RY (H:E7) (m:List Bool):O3 H [] m=H:=by cases m<;>rfl
theorem GQ (H:E7) (p:Nat × Bool) (r:List (Nat × Bool)) (m:List Bool):O3 H (p::r) (true::m)=O3 H r m:=(rfl)
theorem AU (H:E7) (o:Nat) (r:List (Nat × Bool)) (m:List Bool):O3 H ((o,true)::r) (false::m)=I2 o (O3 H r m):=(rfl)
theorem GP (H:E7) (o:Nat) (r:List (Nat × Bool)) (m:List Bool):O3 H ((o,false)::r) (false::m)=O3 H r m:=(rfl)
theorem RX (H:E7) (p:Nat × Bool) (r:List (Nat × Bool)):O3 H (p::r) []=O3 H r []:=(rfl)
section
variable {C:D0} {st:l9} {fr:E0} {res:List (Nat × Option (Option Nat))}
theorem AY:L2 C fr st []=some []:=(rfl)
theorem AZ (t:Nat) (r:List (Nat × Option (Option Nat))):L2 C fr st ((t,none)::r)=CN (f7 fr t) (L2 C fr st r):=by
 simp only[L2,CN]
 cases f7 fr t with
 |none=>rfl
 |some v=>simp only[Option.bind_some];cases L2 C fr st r<;>rfl
theorem uH (t:Nat) (g:Option Nat) (r:List (Nat × Option (Option Nat))):L2 C fr st ((t,some g)::r)=CN (cO C.E.old st.own g (f7 fr t)) (L2 C fr st r):=by
 simp only[L2,CN,cO]
 cases f7 fr t with
 |none=>rfl
 |some p=>
  simp only[Option.bind_some]
  cases cN C.E.old st.own g p with
  |none=>rfl
  |some v=>simp only[Option.bind_some];cases L2 C fr st r<;>rfl
theorem SF (v:V):O4 [v]=v:=(rfl)
theorem SG (a b:V) (r:List V):O4 (a::b::r)= .tup (a::b::r):=(rfl)
mutual
theorem sJ (ρ:List (Nat × Nat)):∀ (v:V),w7 v=true→aD ρ v=v
 | .sc x,_=>rfl
 | .agg l,h=>by simp only[w7] at h;simp only[aD,nU ρ l h]
 | .tup l,h=>by simp only[w7] at h;simp only[aD,nU ρ l h]
 | .sl _ _ _,h=>by simp[w7] at h
 | .slk _ _ _ _,h=>by simp[w7] at h
 | .dp _ _,h=>by simp[w7] at h
 | .ref _ _ _ _,h=>by simp[w7] at h
 | .gr _ _ _,h=>by simp[w7] at h
 | .ptr _ _,h=>by simp[w7] at h
 | .fn _ _ _,h=>by simp[w7] at h
 | .ifc t v,h=>by simp only[w7] at h;simp only[aD,sJ ρ v h]
 | .dead,h=>by simp[w7] at h
 | .tok _,h=>by simp[w7] at h
theorem nU (ρ:List (Nat × Nat)):∀ (l:List V),oN l=true→hY ρ l=l
 | [],_=>rfl
 |v::r,h=>by
  simp only[oN,Bool.and_eq_true] at h
  simp only[hY,sJ ρ v h.1,nU ρ r h.2]
end
theorem b7 {v:V} (h:w7 v=true) (h0:C.w0.nx=0) (hr:st.ro=0):M9 C [(0,v)] st [(0,v)] ⟨[],0,0⟩:=by
 have:=SK (C:=C) (st:=st) [] 0 (fr:= [(0,v)]) (by omega) rfl
 rw[hr] at this
 simpa only[yX,sJ [] v h,BV] using this
end
section
variable {old:Nat→Nat→Option Value} {rounds:Nat} {fns:FuncId→Option n7} {prims:FuncId→List Value→St→Option (Value × List u5)} {n:Nat} {f:FuncId} {xs:List V} {v:V} {st1:l9} {af:n7}
mutual
theorem HS {H:E7}:∀ {v:V},w7 v=true→Cl H v
 | .sc x,_=>by simp only[Cl]
 | .agg l,h=>by simp only[w7] at h;simp only[Cl];exact vY h
 | .tup l,h=>by simp only[w7] at h;simp only[Cl];exact vY h
 | .sl _ _ _,h=>by simp[w7] at h
 | .slk _ _ _ _,h=>by simp[w7] at h
 | .dp _ _,h=>by simp[w7] at h
 | .ref _ _ _ _,h=>by simp[w7] at h
 | .gr _ _ _,h=>by simp[w7] at h
 | .ptr _ _,h=>by simp[w7] at h
 | .fn _ _ _,h=>by simp[w7] at h
 | .ifc t v,h=>by simp only[w7] at h;simp only[Cl];exact HS h
 | .dead,h=>by simp[w7] at h
 | .tok _,h=>by simp[w7] at h
theorem vY {H:E7}:∀ {l:List V},oN l=true→KQ H l
 | [],_=>by simp only[KQ]
 |v::r,h=>by
  simp only[oN,Bool.and_eq_true] at h
  simp only[KQ]
  exact ⟨HS h.1,vY h.2⟩
end
theorem b8 (hf:fns f=some af) (hpu:af.pure=true) (hp:∀ xs s,prims f xs s=none) (hlen:xs.length≤af.n) (hold:eP (x6 old rounds fns prims 0)) (hfl:w7 v=true)
  (h:∀ C:D0,C.E=x6 old rounds fns prims n→C.w0.nx=0→gC C af.code [] (R8 0 xs) ⟨[],0,0⟩ (qL C af.res v ⟨[],0,0⟩)):k8 (x6 old rounds fns prims (n+1)) f xs v ⟨[],0,0⟩:=by
 refine SC hf hpu hp hlen hold ⟨?_,(fun o t e l h=>by cases h),(fun o ob h=>by cases h)⟩ rfl h
 exact HS hfl
theorem A2 (hf:fns f=some af) (hpu:af.pure=true) (hp:∀ xs s,prims f xs s=none) (hlen:xs.length≤af.n) (hold:eP (x6 old rounds fns prims 0)) (hR:bM st1.own v) (hro:st1.ro=0)
  (h:∀ C:D0,C.E=x6 old rounds fns prims n→C.w0.nx=0→gC C af.code [] (R8 0 xs) ⟨[],0,0⟩ (qL C af.res v st1)):k8 (x6 old rounds fns prims (n+1)) f xs v st1:=SC hf hpu hp hlen hold hR hro h
theorem bB8 {st0:l9} (hf:fns f=some af) (hpu:af.pure=true) (hp:∀ xs s,prims f xs s=none) (hlen:xs.length≤af.n) (hfl:w7 v=true)
  (h:∀ C:D0,C.E=x6 old rounds fns prims n→C.w0.nx=st0.next→∃ st1,gC C af.code [] (R8 0 xs) ⟨st0.own,st0.next,st0.next⟩ (qL C af.res v st1)):H1 (x6 old rounds fns prims (n+1)) f st0 xs v:=aJ2 hf hpu hp hlen hfl h
end
theorem d7 (w:World) {r:Nat} {fns:FuncId→Option n7} {prims:FuncId→List Value→St→Option (Value × List u5)}:eP (x6 (K4 w) r fns prims 0):=by
 intro b o v e
 have e:K4 w b o=some v:=e
 unfold K4 at e
 split at e
 ·cases e;exact .inr ⟨_,_,_,rfl⟩
 ·split at e
  ·rename_i h;cases e;exact .inl (by simpa using h)
  ·cases e
 ·cases e
section
variable {C:D0} {K:List KF} {fr:E0} {st:l9} {P:B5}
theorem D5 {p:Prop} [Decidable p] {t e:AC} (h1:p→gC C t K fr st P) (h2:¬ p→gC C e K fr st P):gI C (some (.sc (.bool (decide p)))) t e K fr st P:=by
 by_cases h:p
 ·rw[bP h,IK];exact h1 h
 ·rw[dN h,xA];exact h2 h
theorem D6 {b:Bool} {t e:AC} (h1:b=true→gC C t K fr st P) (h2:b=false→gC C e K fr st P):gI C (some (.sc (.bool b))) t e K fr st P:=by
 cases b
 ·exact h2 rfl
 ·exact h1 rfl
theorem y9 {p:Prop} [Decidable p] {want:Bool} {d:Option Nat} {o:K8} {l:List f9} {ks:List Nat} (h1:p→gG C (some (.sc (.bool true))) want d o l ks K fr st P) (h2:¬ p→gG C (some (.sc (.bool false))) want d o l ks K fr st P):gG C (some (.sc (.bool (decide p)))) want d o l ks K fr st P:=by
 by_cases h:p
 ·rw[bP h];exact h1 h
 ·rw[dN h];exact h2 h
theorem D4 {b:Bool} {want:Bool} {d:Option Nat} {o:K8} {l:List f9} {ks:List Nat} (h1:b=true→gG C (some (.sc (.bool true))) want d o l ks K fr st P) (h2:b=false→gG C (some (.sc (.bool false))) want d o l ks K fr st P):gG C (some (.sc (.bool b))) want d o l ks K fr st P:=by
 cases b
 ·exact h2 rfl
 ·exact h1 rfl
theorem z6 {p:Prop} [Decidable p] {want:Bool} {t:Nat} {d:Option Nat} {o:K8} {l:List f9} {hid:List (List Bool)} {vds:List (Nat × Bool)} {tail:List f9} {ks:List Nat} (h1:p→XV C (some (.sc (.bool true))) want t d o l hid vds tail ks K fr st P) (h2:¬ p→XV C (some (.sc (.bool false))) want t d o l hid vds tail ks K fr st P):XV C (some (.sc (.bool (decide p)))) want t d o l hid vds tail ks K fr st P:=by
 by_cases h:p
 ·rw[bP h];exact h1 h
 ·rw[dN h];exact h2 h
theorem z7 {b:Bool} {want:Bool} {t:Nat} {d:Option Nat} {o:K8} {l:List f9} {hid:List (List Bool)} {vds:List (Nat × Bool)} {tail:List f9} {ks:List Nat} (h1:b=true→XV C (some (.sc (.bool true))) want t d o l hid vds tail ks K fr st P) (h2:b=false→XV C (some (.sc (.bool false))) want t d o l hid vds tail ks K fr st P):XV C (some (.sc (.bool b))) want t d o l hid vds tail ks K fr st P:=by
 cases b
 ·exact h2 rfl
 ·exact h1 rfl
end
def bW3 (k n:Nat):Option Obj→Option D
 |some (.row _ e _ _ l)=>if k+n*e≤l.length then some (.sl 0 n ((l.drop k).take (n*e))) else none
 |_=>none
def bW2 (s n:Nat):Option Obj→Option D
 |some (.gro _ e _ l)=>if l.length=n*e∧s ≠ 0∧s ≠ 1∧e ≠ 0 then some (.sl s n l) else none
 |_=>none
theorem ZX (H:E7) (o k n c:Nat):dH H (.ref o k n c)=bW3 k n (f7 H o):=by
 simp only[dH]
 cases f7 H o with
 |none=>rfl
 |some ob=>cases ob<;>rfl
theorem aZ4 (H:E7) (s o n:Nat):dH H (.gr s o n)=bW2 s n (f7 H o):=by
 simp only[dH]
 cases f7 H o with
 |none=>rfl
 |some ob=>cases ob<;>rfl
theorem RH (n t e:Nat) (g z:Bool) (l:List D) (h:l.length=n*e):bW3 0 n (some (.row t e g z l))=some (.sl 0 n l):=by
 simp only[bW3]
 rw[if_pos (by omega),List.drop_zero,List.take_of_length_le (by omega)]
theorem RF (s n t e:Nat) (z:Bool) (l:List D) (hs0:s ≠ 0) (hs1:s ≠ 1) (he:e ≠ 0) (h:l.length=n*e):bW2 s n (some (.gro t e z l))=some (.sl s n l):=by
 simp only[bW2]
 rw[if_pos ⟨h,hs0,hs1,he⟩]
theorem aZ5 (H:E7) (x:Value):dH H (.sc x)=some (.sc x):=(rfl)
theorem aZ6 (H:E7) (s n:Nat) (l:List D) (h:KO (.sl s n l)=true):dH H (.sl s n l)=some (.sl s n l):=by simp only[dH,h,if_true]
abbrev Src:=Option (Nat × List D × List Nat)
def U1 (H:E7) (e:Nat) (y:V):Src:=(Q9 y).bind fun m=>(J8 H e m y).map fun r=>(m,r.1,r.2)
def mI (H:E7) (e k n:Nat):Option Obj→Src
 |some (.row _ _ _ _ l)=>if k+n*e≤l.length then some (n,(l.drop k).take (n*e),[]) else none
 |some (.gro _ _ _ l)=>if k+n*e≤l.length∧n ≠ 0∧e ≠ 0 then some (n,(l.drop k).take (n*e),[]) else none
 |some (.box _ _ l)=>if k+n*e≤l.length then (cL H ((l.drop k).take (n*e))).map fun ds=>(n,ds,lX ((l.drop k).take (n*e))) else none
 |none=>none
def bJ5 (e n:Nat):Option Obj→Src
 |some (.gro _ _ _ l)=>if l.length=n*e∧e ≠ 0 then some (n,l,[]) else none
 |_=>none
theorem sE (H:E7) (e o k n c:Nat):U1 H e (.ref o k n c)=mI H e k n (f7 H o):=by
 simp only[U1,OH,Option.bind_some,J8]
 cases f7 H o with
 |none=>rfl
 |some ob=>
  cases ob with
  |row t e' g z l=>simp only[mI];split<;>rfl
  |gro t e' z l=>simp only[mI];split<;>rfl
  |box t e' l=>
   simp only[mI]
   split
   ·cases cL H ((l.drop k).take (n*e))<;>rfl
   ·rfl
theorem QU (H:E7) (e s o n:Nat):U1 H e (.gr s o n)=bJ5 e n (f7 H o):=by
 simp only[U1,bG1,Option.bind_some,J8]
 cases f7 H o with
 |none=>rfl
 |some ob=>
  cases ob with
  |gro t e' z l=>
   simp only[bJ5,Nat.le_refl,true_and]
   split
   ·rename_i h;rw[List.take_of_length_le (by omega)];rfl
   ·rfl
  |_=>rfl
theorem QV (H:E7) (e s n:Nat) (l:List D) (h:l.length=n*e):U1 H e (.sl s n l)=some (n,l,[]):=by
 simp only[U1,bG2,Option.bind_some,bV9 H e s n l h,Option.map_some]
theorem FP (H:E7) (e s n c:Nat) (l:List D) (h:l.length=n*e):U1 H e (.slk s n c l)=some (n,l,[]):=by
 simp only[U1,aS1,Option.bind_some,bJ6 H e s n c l h,Option.map_some]
theorem FO (H:E7) (e n c:Nat):U1 H e (.sc (.slice none n c))=some (0,[],[]):=(rfl)
theorem sF (H:E7) (s:ByteArray):U1 H 1 (.sc (.string s))=some (s.size,s.data.toList.map (fun b=> .sc (.int .u8 b.toNat)),[]):=by
 simp only[U1,aS2,Option.bind_some,bJ7,Option.map_some]
theorem FN (H:E7) (e n t e':Nat) (g z:Bool) (l:List D) (h:l.length=n*e):mI H e 0 n (some (.row t e' g z l))=some (n,l,[]):=by
 simp only[mI]
 rw[if_pos (by omega),List.drop_zero,List.take_of_length_le (by omega)]
def TC (d:Option D) (fz:List Nat):Src:=d.map fun d=>(1,[d],fz)
theorem sR (d:D) (fz:List Nat):TC (some d) fz=some (1,[d],fz):=(rfl)
theorem FM (H:E7) (t e':Nat) (v:V):mI H 1 0 1 (some (.box t e' [v]))=TC (dH H v) (wX v):=by
 simp only[mI,TC]
 rw[if_pos (by simp)]
 simp only[List.drop_zero,Nat.mul_one,List.take_succ_cons,List.take_zero,cL,lX,List.append_nil]
 cases dH H v<;>rfl
theorem QT (e n t e':Nat) (z:Bool) (l:List D) (h:l.length=n*e) (he:e ≠ 0):bJ5 e n (some (.gro t e' z l))=some (n,l,[]):=by
 simp only[bJ5]
 rw[if_pos ⟨h,he⟩]
theorem XG (o k n c:Nat):wX (.ref o k n c)= [o]:=(rfl)
theorem aO9 (s o n:Nat):wX (.gr s o n)= [o]:=(rfl)
theorem aP1 (s n:Nat) (l:List D):wX (.sl s n l)= []:=(rfl)
theorem aP0 (x:Value):wX (.sc x)= []:=(rfl)
def vE (st:l9) (t e b s o n:Nat) (ob:Option Obj) (src:Src):Option (V × l9):=
 match ob,src with
 |some (.gro t' e' z l),some (m,new,fz)=>
  if W5 new && !Nat.beq e 0 && E4 st.ro st.own fz then (if Nat.ble st.ro o && !z && (Nat.beq s 2|| !Nat.beq n 0) && Nat.beq t' t && Nat.beq e' e && Nat.beq l.length (n*e) && Nat.ble (n+m) r6 && Nat.ble ((n+m)*b) r6 && !l7 o fz then
   some (.gr 2 st.next (n+m),⟨(st.next,.gro t e false (l++new))::C4 fz (I2 o st.own),st.next+1,st.ro⟩) else none) else none
 |_,_=>none
theorem RN (st:l9) (t e b s o n:Nat) (y:V):uG st t e b (.gr s o n) y=vE st t e b s o n (f7 st.own o) (U1 st.own e y):=by
 simp only[uG,U1]
 cases Q9 y with
 |none=>simp only[Option.bind_none,vE];cases f7 st.own o with|none=>rfl|some ob=>cases ob<;>rfl
 |some m=>
  simp only[Option.bind_some]
  cases J8 st.own e m y with
  |none=>simp only[Option.bind_none,Option.map_none,vE];cases f7 st.own o with|none=>rfl|some ob=>cases ob<;>rfl
  |some r=>
   simp only[Option.bind_some,Option.map_some]
   cases f7 st.own o with
   |none=>simp only[vE];split<;>rfl
   |some ob=>cases ob<;>simp only[vE]<;>split<;>rfl
theorem LC (H:E7) (nx ro t e b s o n m:Nat) (l new:List D) (fz:List Nat) (hs:s=2∨n ≠ 0) (hro:ro≤o) (he:e ≠ 0) (hl:l.length=n*e) (hok:W5 new=true) (hrow:E4 ro H fz=true) (hof:l7 o fz=false) (h1:n+m≤1099511627776) (h2:(n+m)*b≤1099511627776):
  vE ⟨H,nx,ro⟩ t e b s o n (some (.gro t e false l)) (some (m,new,fz))=some (.gr 2 nx (n+m),⟨(nx,.gro t e false (l++new))::C4 fz (I2 o H),nx+1,ro⟩):=by
 simp only[vE,hok,hrow]
 rw[if_pos (by simp[SS.2 he]),if_pos]
 have hb:Nat.ble ro o=true:=by rw[Nat.ble_eq];exact hro
 have h3:Nat.ble (n+m) r6=true:=by rw[Nat.ble_eq];exact h1
 have h4:Nat.ble ((n+m)*b) r6=true:=by rw[Nat.ble_eq];exact h2
 have h5:Nat.beq l.length (n*e)=true:=f8.2 hl
 have h6:Nat.beq t t=true:=f8.2 rfl
 have h7:Nat.beq e e=true:=f8.2 rfl
 have h8:(Nat.beq s 2|| !Nat.beq n 0)=true:=by
  rw[Bool.or_eq_true,Bool.not_eq_true',SS]
  exact hs.imp f8.2 id
 simp only[hb,h3,h4,h5,h6,h7,h8,hof,Bool.not_false,Bool.and_self]
theorem RO (H:E7) (nx t e b s o n:Nat) (y:V):mJ H nx t e b (.gr s o n) y=none:=by
 simp only[mJ]
 cases Q9 y with
 |none=>rfl
 |some m=>
  simp only[Option.bind_some]
  cases J8 H e m y with
  |none=>rfl
  |some r=>
   simp only[Option.bind_some]
   split
   ·rfl
   ·split<;>rfl
def HJ (nx t e b:Nat) (src:Src):VO:=
 match src with
 |some (m,new,fz)=>if Nat.beq m 0 then some (.sc (.slice none 0 0),none,[]) else if W5 new && !Nat.beq e 0 then (if Nat.ble m r6 && Nat.ble (m*b) r6 then some (.gr 2 nx m,some (.gro t e false new),fz) else none) else none
 |none=>none
theorem vF (nx t e b m:Nat) (new:List D) (fz:List Nat) (hm:m ≠ 0) (he:e ≠ 0) (hok:W5 new=true) (h1:m≤1099511627776) (h2:m*b≤1099511627776):HJ nx t e b (some (m,new,fz))=some (.gr 2 nx m,some (.gro t e false new),fz):=by
 simp only[HJ]
 have h3:Nat.ble m r6=true:=by rw[Nat.ble_eq];exact h1
 have h4:Nat.ble (m*b) r6=true:=by rw[Nat.ble_eq];exact h2
 rw[if_neg (by rw[f8];exact hm),if_pos (by simp[hok,SS.2 he]),if_pos (by simp[h3,h4])]
theorem sQ (nx t e b:Nat) (new:List D) (fz:List Nat):HJ nx t e b (some (0,new,fz))=some (.sc (.slice none 0 0),none,[]):=(rfl)
def oE (nx t e b n c o k:Nat) (base src:Src):VO:=
 match src with
 |some (m,new,fz)=>if Nat.beq m 0 then some (.ref o k n c,none,[]) else if W5 new && !Nat.beq e 0 then (if Nat.blt c v7 && Nat.blt c (n+m) && Nat.ble (n+m) r6 && Nat.ble ((n+m)*b) r6 then
   (match base with|some (_,cs,fb)=>if W5 cs then some (.gr 2 nx (n+m),some (.gro t e false (cs++new)),fb++fz) else none|none=>none) else none) else none
 |none=>none
theorem sP (nx t e b n c o k m q:Nat) (cs new:List D) (fb fz:List Nat) (hm:m ≠ 0) (he:e ≠ 0) (hok:W5 new=true) (hcs:W5 cs=true) (hc:c<n+m) (h1:n+m≤1099511627776) (h2:(n+m)*b≤1099511627776):
  oE nx t e b n c o k (some (q,cs,fb)) (some (m,new,fz))=some (.gr 2 nx (n+m),some (.gro t e false (cs++new)),fb++fz):=by
 simp only[oE]
 have h3:Nat.ble (n+m) r6=true:=by rw[Nat.ble_eq];exact h1
 have h4:Nat.ble ((n+m)*b) r6=true:=by rw[Nat.ble_eq];exact h2
 have h5:Nat.blt c v7=true:=by rw[Nat.blt_eq];unfold v7;omega
 have h6:Nat.blt c (n+m)=true:=by rw[Nat.blt_eq];exact hc
 rw[if_neg (by rw[f8];exact hm),if_pos (by simp[hok,SS.2 he]),if_pos (by simp[h3,h4,h5,h6])]
 simp only[hcs,if_true]
theorem oF (nx t e b n c o k:Nat) (base:Src) (new:List D) (fz:List Nat):oE nx t e b n c o k base (some (0,new,fz))=some (.ref o k n c,none,[]):=(rfl)
theorem GE (H:E7) (nx t e b:Nat) (y:V):mJ H nx t e b (.sc (.slice none 0 0)) y=HJ nx t e b (U1 H e y):=by
 simp only[mJ,U1]
 cases Q9 y with
 |none=>rfl
 |some m=>
  simp only[Option.bind_some]
  cases J8 H e m y with
  |none=>rfl
  |some r=>rfl
theorem GF (H:E7) (nx t e b o k n c:Nat) (y:V):mJ H nx t e b (.ref o k n c) y=oE nx t e b n c o k (mI H e k n (f7 H o)) (U1 H e y):=by
 have hs:(J8 H e n (.ref o k n c)).map (fun r=>(n,r.1,r.2))=mI H e k n (f7 H o):=by
  have:=sE H e o k n c
  simp only[U1,OH,Option.bind_some] at this
  exact this
 simp only[mJ,U1]
 cases Q9 y with
 |none=>rfl
 |some m=>
  simp only[Option.bind_some]
  cases J8 H e m y with
  |none=>rfl
  |some r=>
   simp only[Option.bind_some,Option.map_some,oE,← hs]
   split
   ·rfl
   ·split
    ·split
     ·cases J8 H e n (.ref o k n c) with
      |none=>rfl
      |some q=>rfl
     ·rfl
    ·rfl
def JX (st:l9) (o k t e:Nat) (g:Bool) (l:List D) (fz:List Nat) (d:Option D):Option (V × l9):=d.bind fun d=>if Nat.blt k l.length && !l7 o fz && E4 st.ro st.own fz then some (.tup [],⟨A9 (C4 fz st.own) o (.row t e g false (l.set k d)),st.next,st.ro⟩) else none
theorem uC (st:l9) (o k t e:Nat) (g:Bool) (l:List D) (fz:List Nat) (d:D) (h:k<l.length) (h2:l7 o fz=false) (h3:E4 st.ro st.own fz=true):JX st o k t e g l fz (some d)=some (.tup [],⟨A9 (C4 fz st.own) o (.row t e g false (l.set k d)),st.next,st.ro⟩):=by
 simp only[JX,Option.bind_some]
 rw[if_pos (by simp[h,h2,h3])]
def stO (st:l9) (n o k:Nat) (v:V) (ob:Option Obj):Option (V × l9):=
 ((M6 v).bind fun cs=>if Nat.beq cs.length n then (if !Nat.ble st.ro o then none else match ob with
    |some (.box t e l)=>if cs.all Z8 then (E1 l k cs).map fun l=>(⟨A9 st.own o (.box t e l),st.next,st.ro⟩:l9) else none
    |some (.row t e g z l)=>if z||l7 o (lX cs)|| !E4 st.ro st.own (lX cs) then none else (cL st.own cs).bind fun ds=>(E1 l k ds).map fun l=>(⟨A9 (C4 (lX cs) st.own) o (.row t e g false l),st.next,st.ro⟩:l9)
    |some (.gro t e z l)=>if z||l7 o (lX cs)||cs.isEmpty|| !E4 st.ro st.own (lX cs) then none else (cL st.own cs).bind fun ds=>(E1 l k ds).map fun l=>(⟨A9 (C4 (lX cs) st.own) o (.gro t e false l),st.next,st.ro⟩:l9)
    |none=>none) else none).map fun st=>(V.tup [],st)
theorem zY (st:l9) (n o k:Nat) (v:V):aZ2 st n (.ptr o k) v=stO st n o k v (f7 st.own o):=(rfl)
theorem QW (st:l9) (o k t e:Nat) (l:List V) (v:V) (hro:st.ro≤o) (hv:Z8 v=true) (hk:k<l.length):stO st 1 o k v (some (.box t e l))=some (.tup [],⟨A9 st.own o (.box t e (l.set k v)),st.next,st.ro⟩):=by
 simp only[stO,gF v hv,Option.bind_some,List.length_singleton]
 rw[if_pos (show Nat.beq 1 1=true from rfl),if_neg (by simp only[Bool.not_eq_true,LH];exact hro)]
 simp only[List.all_cons,hv,List.all_nil,Bool.and_true,if_true]
 rw[aA _ _ _ hk]
 rfl
theorem QX (st:l9) (o t e n:Nat) (l m:List V) (hro:st.ro≤o) (hm:m.all Z8=true) (hn:m.length=n) (hl:m.length=l.length):stO st n o 0 (.agg m) (some (.box t e l))=some (.tup [],⟨A9 st.own o (.box t e m),st.next,st.ro⟩):=by
 simp only[stO,M6,hm,if_true,Option.bind_some]
 rw[if_pos (f8.2 hn),if_neg (by simp only[Bool.not_eq_true,LH];exact hro)]
 rw[pQ _ _ _ (by omega)]
 simp only[List.take_zero,List.nil_append,Nat.zero_add,Option.map_some]
 rw[List.drop_eq_nil_of_le (by omega),List.append_nil]
theorem zW (st:l9) (o k t e:Nat) (g:Bool) (l:List D) (x:Value) (hro:st.ro≤o) (hk:k<l.length):stO st 1 o k (.sc x) (some (.row t e g false l))=some (.tup [],⟨A9 st.own o (.row t e g false (l.set k (.sc x))),st.next,st.ro⟩):=by
 simp only[stO,M6,Option.bind_some,List.length_singleton]
 rw[if_pos (show Nat.beq 1 1=true from rfl),if_neg (by simp only[Bool.not_eq_true,LH];exact hro)]
 simp only[lX,wX,List.append_nil,l7,E4,Bool.not_true,Bool.or_false]
 rw[if_neg (by simp)]
 simp only[cL,dH,Option.bind_some,Option.map_some]
 rw[aA _ _ _ hk,A1]
 rfl
theorem zV (st:l9) (o k t e:Nat) (l:List D) (x:Value) (hro:st.ro≤o) (hk:k<l.length):stO st 1 o k (.sc x) (some (.gro t e false l))=some (.tup [],⟨A9 st.own o (.gro t e false (l.set k (.sc x))),st.next,st.ro⟩):=by
 simp only[stO,M6,Option.bind_some,List.length_singleton]
 rw[if_pos (show Nat.beq 1 1=true from rfl),if_neg (by simp only[Bool.not_eq_true,LH];exact hro)]
 simp only[lX,wX,List.append_nil,l7,E4,Bool.not_true,Bool.or_false,List.isEmpty_cons]
 rw[if_neg (by simp)]
 simp only[cL,dH,Option.bind_some,Option.map_some]
 rw[aA _ _ _ hk,A1]
 rfl
theorem FQ (st:l9) (o k t e:Nat) (g:Bool) (l:List D) (v:V) (hro:st.ro≤o) (hv:Z8 v=true):stO st 1 o k v (some (.row t e g false l))=JX st o k t e g l (wX v) (dH st.own v):=by
 simp only[stO,gF v hv,Option.bind_some,List.length_singleton]
 rw[if_pos (show Nat.beq 1 1=true from rfl),if_neg (by simp only[Bool.not_eq_true,LH];exact hro)]
 simp only[lX,List.append_nil,Bool.false_or,cL,JX]
 cases dH st.own v with
 |none=>split<;>rfl
 |some d=>
  simp only[Option.bind_some,Option.map_some]
  cases h1:l7 o (wX v)<;>cases h2:E4 st.ro st.own (wX v)
  ·simp
  ·simp only[Bool.not_true,Bool.or_self,Bool.false_eq_true,if_false,Bool.not_false,Bool.and_true]
   by_cases hk:k<l.length
   ·rw[aA _ _ _ hk,if_pos (by rw[Nat.blt_eq];exact hk)];rfl
   ·rw[if_neg (by rw[Nat.blt_eq];exact hk)]
    have:E1 l k [d]=none:=by
     clear h1 h2
     induction l generalizing k with
     |nil=>cases k<;>rfl
     |cons x l ih=>
      cases k with
      |zero=>simp at hk
      |succ k=>simp only[E1];rw[ih k (by simpa using hk)];rfl
    rw[this];rfl
  ·simp
  ·simp
end Go.Itp
