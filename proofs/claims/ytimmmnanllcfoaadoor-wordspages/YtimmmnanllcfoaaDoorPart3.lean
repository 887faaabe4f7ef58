/- What is proved: the law WordsPages returns true for every input. Conditions: none beyond the card's own.
   Texts: V7, V8, V9, V10, V11, V12, V13, V14, V15, V16, V17, Lib, Lib2, WalkW, Strs, V18, V19.
-/
import Derived.Test.YtimmmnanllcfoaaDoorPart2
namespace Go.Itp
set_option linter.unusedVariables false
set_option linter.constructorNameAsVariable false
section
variable {E:E2} {H:E4} {heap:j9} {w:VW} {fr:D7} {frI:Fr} {n p:Nat} {v:V} {ob:Option Obj} {fz:List Nat}
theorem eF {H:E4}:∀ {l:List V} {ds:List D},cI H l=some ds→ds.length=l.length
 | [],ds,h=>by simp only[cI,Option.some.injEq] at h;subst h;rfl
 |x::l,ds,h=>by
  simp only[cI,Option.bind_eq_some_iff,Option.map_eq_some_iff] at h
  obtain ⟨d,_,ds',h2,rfl⟩:=h
  simp[eF h2]
theorem QV {e m:Nat} {l:List D × List Nat} (h:J8 H e m v=some l) (hm:∀ n,Q7 v=some n→m≤n):l.1.length=m*e:=by
 unfold J8 at h
 split at h
 ·split at h
  ·rename_i hc
   cases h
   have:=Nat.mul_le_mul_right e hc.2
   rw[List.length_take];omega
  ·cases h
 ·split at h
  ·rename_i hc
   cases h
   have:=Nat.mul_le_mul_right e hc.2
   rw[List.length_take];omega
  ·cases h
 ·split at h
  ·split at h
   ·cases h;rw[List.length_take,List.length_drop];omega
   ·cases h
  ·split at h
   ·cases h;rw[List.length_take,List.length_drop];omega
   ·cases h
  ·split at h
   ·simp only[Option.map_eq_some_iff] at h
    obtain ⟨ds,h1,rfl⟩:=h
    rw[eF h1,List.length_take,List.length_drop];omega
   ·cases h
  ·cases h
 ·split at h
  ·split at h
   ·rename_i hc
    cases h
    have:=Nat.mul_le_mul_right e hc.2.1
    rw[List.length_take];omega
   ·cases h
  ·cases h
 ·split at h
  ·rename_i hm0;cases h;rw[i6.1 hm0];simp
  ·cases h
 ·split at h
  ·rename_i s hc
   cases h
   simp only[Bool.and_eq_true,Nat.ble_eq] at hc
   rw[i6.1 hc.1,List.length_map,List.length_take]
   have:s.data.toList.length=s.size:=by simp
   omega
  ·cases h
 ·cases h
theorem mK {l:List D} {b k q:Nat} {blk:u6} (hb:d9 heap b=some blk) (h:j6 w l blk.cells) (hq:k+q≤l.length):∃ vs,F9 E heap ⟨b,k,some 0⟩ q=some vs∧j6 w ((l.drop k).take q) vs:=by
 have hl:=h.length
 exact ⟨_,eQ hb (by omega),h.part k q⟩
def nY (E:E2) (heap:j9) (w:VW) (e m:Nat) (vI:Value) (r:List D × List Nat):Prop:=
 ∃ cs,n7 E heap e m vI=some cs∧cs.length=r.1.length∧cs.all A1=true∧∀ w',VW.le w w'→Fin w w' r.2→LdX heap w w' r.2→j6 w' r.1 cs
theorem R4 {e m:Nat} {vI:Value} {l:List D} (h:∃ cs,n7 E heap e m vI=some cs∧j6 w l cs):nY E heap w e m vI (l,[]):=by
 obtain ⟨cs,h1,h2⟩:=h
 exact ⟨cs,h1,h2.length,h2.one,fun w' k1 _ _=>h2.mono k1⟩
theorem RI {w:VW}:∀ {l:List V} {vs:List Value} {ds:List D},d8 w l vs→cI H l=some ds→vs.all A1=true
 | [],vs,ds,h,ht=>by simp only[d8] at h;subst h;rfl
 |x::r,vs,ds,h,ht=>by
  simp only[cI,Option.bind_eq_some_iff,Option.map_eq_some_iff] at ht
  obtain ⟨d,h1,ds',h2,rfl⟩:=ht
  simp only[d8] at h
  obtain ⟨u,us,rfl,k1,k2⟩:=h
  have:bZ x=true:=by
   cases x with
   |agg l=>simp[cY] at h1
   |tup l=>simp[cY] at h1
   |dead=>simp[cY] at h1
   |tok o=>simp[cY] at h1
   |_=>rfl
  simp only[List.all_cons,k1.one this,Bool.true_and]
  exact RI k2 h2
theorem V1 (hr:HR E H heap w) {e m:Nat} {r:List D × List Nat} {vI:Value} (hv:b7 w v vI) (h:J8 H e m v=some r) (hm:∀ n,Q7 v=some n→m≤n):nY E heap w e m vI r:=by
 have hnil:∀ {u:Value},m=0→r=([],[])→(u= .slice none 0 0∨∃ a b c,u= .complex a b c)→nY E heap w e m u r:=by
  intro u h0 h1 h2
  subst h0 h1
  exact R4 (by rcases h2 with rfl|⟨a,b,c,rfl⟩<;>exact ⟨[],rfl,by simp only[j6]⟩)
 unfold J8 at h
 split at h
 ·rename_i s n l
  split at h
  case isFalse=>cases h
  rename_i hc
  cases h
  have hle:=Nat.mul_le_mul_right e hc.2
  simp only[b7,u7] at hv
  rcases hv with ⟨a,c,rfl,i,_,hA,_⟩|⟨_,rfl,rfl,rfl|⟨_,a,b,c,rfl⟩⟩
  ·exact R4 (kC hr i hA (m*e) (by omega))
  ·exact hnil (by omega) (by simp) (.inl rfl)
  ·exact hnil (by omega) (by simp) (.inr ⟨_,_,_,rfl⟩)
 ·rename_i s n c l
  split at h
  case isFalse=>cases h
  rename_i hc
  cases h
  have hle:=Nat.mul_le_mul_right e hc.2
  simp only[b7] at hv
  rcases hv with ⟨_,_,⟨a,rfl,i,hA⟩|⟨_,rfl,_,rfl,rfl⟩⟩
  ·exact R4 (kC hr i hA (m*e) (by omega))
  ·exact hnil (by omega) (by simp) (.inl rfl)
 ·rename_i o k n c
  simp only[b7] at hv
  obtain ⟨k1,_,b',rfl,k3⟩:=hv
  split at h
  ·rename_i t e' g z l' ho
   split at h
   case isFalse=>cases h
   rename_i hc
   cases h
   obtain ⟨b,blk,m1,m2,m3⟩:=hr.obj o _ ho rfl
   have:=k3 b m1
   subst this
   exact R4 (mK (E:=E) m2 m3.2.2.2 hc)
  ·rename_i t e' z l' ho
   split at h
   case isFalse=>cases h
   rename_i hc
   cases h
   have hne:(Obj.gro t e' z l').none=false:=by
    cases l' with
    |nil=>
     exfalso
     have:=Nat.mul_pos (Nat.pos_of_ne_zero hc.2.1) (Nat.pos_of_ne_zero hc.2.2)
     simp at hc;omega
    |cons=>rfl
   obtain ⟨b,blk,m1,m2,m3⟩:=hr.obj o _ ho hne
   have:=k3 b m1
   subst this
   exact R4 (mK (E:=E) m2 m3.2.2.2 hc.1)
  ·rename_i t e' l' ho
   split at h
   case isFalse=>cases h
   rename_i hc
   simp only[Option.map_eq_some_iff] at h
   obtain ⟨ds,hd,rfl⟩:=h
   obtain ⟨b,blk,m1,m2,m3⟩:=hr.obj o _ ho rfl
   have:=k3 b m1
   subst this
   have hcl:=m3.2.2.2.length
   have hp:=m3.2.2.2.part k (m*e)
   refine ⟨(blk.cells.drop k).take (m*e),eQ (E:=E) m2 (by omega),?_,RI hp hd,fun w' q1 q2 q3=>(uO hr q1 hp hd q2 q3).1⟩
   rw[eF hd,hp.length]
  ·cases h
 ·rename_i s o n
  split at h
  case h_2=>cases h
  rename_i t e' z l' ho
  split at h
  case isFalse=>cases h
  rename_i hc
  cases h
  have hle:=Nat.mul_le_mul_right e hc.2.1
  simp only[b7] at hv
  obtain ⟨k1,hv⟩:=hv
  rcases hv with ⟨rfl,rfl|⟨_,a,c,rfl,i⟩⟩|⟨hn,b',rfl,k3⟩
  ·have hl0:l'= []:=List.eq_nil_of_length_eq_zero (by rw[hc.1];simp)
   exact hnil (by omega) (by rw[hl0];simp) (.inl rfl)
  ·have hl0:l'= []:=List.eq_nil_of_length_eq_zero (by rw[hc.1];simp)
   subst hl0
   exact R4 (kC hr i (v7.nil a) (m*e) (by (have:m=0:=by omega);subst this;simp))
  ·have hne:(Obj.gro t e' z l').none=false:=by
    cases l' with
    |nil=>
     exfalso
     have:=Nat.mul_pos (Nat.pos_of_ne_zero hn) (Nat.pos_of_ne_zero hc.2.2)
     simp at hc;omega
    |cons=>rfl
   obtain ⟨b,blk,m1,m2,m3⟩:=hr.obj o _ ho hne
   have:=k3 b m1
   subst this
   have:=mK (E:=E) (k:=0) (q:=m*e) m2 m3.2.2.2 (by omega)
   rw[List.drop_zero] at this
   exact R4 this
 ·rename_i q1 q2
  split at h
  case isFalse=>cases h
  rename_i hm0
  cases h
  have hx:=hv.ok
  have:=hv.scv
  subst this
  simp only[B8,Bool.and_eq_true,i6] at hx
  obtain ⟨rfl,rfl⟩:=hx
  exact hnil (i6.1 hm0) rfl (.inl rfl)
 ·rename_i s
  split at h
  case isFalse=>cases h
  rename_i hc
  cases h
  simp only[Bool.and_eq_true,Nat.ble_eq] at hc
  have he:=i6.1 hc.1
  subst he
  have:=hv.scv
  subst this
  refine R4 ⟨q9 (s.data.toList.take m),?_,qO _⟩
  have hsz:s.data.toList.length=s.size:=by simp
  show (B4 s.data.toList m).map q9=_
  rw[U6 _ _ (by omega)]
  rfl
 ·cases h
theorem nY.plain (hr:HR E H heap w) {e m:Nat} {vI:Value} {r:List D × List Nat} (h:nY E heap w e m vI r) (h2:r.2= []):∃ cs,n7 E heap e m vI=some cs∧j6 w r.1 cs:=by
 obtain ⟨cs,h1,_,_,h3⟩:=h
 exact ⟨cs,h1,h3 w ⟨fun _ _=>rfl,fun _ h=>h,Nat.le_refl _,fun _ _ _ h=>h⟩ (by rw[h2];intro o ho;cases ho) (by rw[h2];intro o ho;cases ho)⟩
theorem qR:∀ {l:List D} {bs:List UInt8} {cs:List Value},A0 l=some bs→j6 w l cs→bytesOf cs=some bs
 | [],bs,cs,h,hl=>by
  simp only[j6] at hl;subst hl
  simp only[A0,Option.some.injEq] at h;subst h;rfl
 | .sc (.int .u8 n)::r,bs,cs,h,hl=>by
  simp only[j6,u7] at hl
  obtain ⟨v,vs,rfl,⟨rfl,_⟩,h2⟩:=hl
  simp only[A0,Option.map_eq_some_iff] at h
  obtain ⟨bs',h1,rfl⟩:=h
  simp[bytesOf,qR h1 h2]
 | .sc (.int .i8 n)::r,bs,cs,h,hl=>by simp[A0] at h
 | .sc (.int .i16 n)::r,bs,cs,h,hl=>by simp[A0] at h
 | .sc (.int .i32 n)::r,bs,cs,h,hl=>by simp[A0] at h
 | .sc (.int .i64 n)::r,bs,cs,h,hl=>by simp[A0] at h
 | .sc (.int .u16 n)::r,bs,cs,h,hl=>by simp[A0] at h
 | .sc (.int .u32 n)::r,bs,cs,h,hl=>by simp[A0] at h
 | .sc (.int .u64 n)::r,bs,cs,h,hl=>by simp[A0] at h
 | .sc (.bool _)::r,bs,cs,h,hl=>by simp[A0] at h
 | .sc (.float _ _)::r,bs,cs,h,hl=>by simp[A0] at h
 | .sc (.complex _ _ _)::r,bs,cs,h,hl=>by simp[A0] at h
 | .sc (.string _)::r,bs,cs,h,hl=>by simp[A0] at h
 | .sc (.pointer _)::r,bs,cs,h,hl=>by simp[A0] at h
 | .sc (.slice _ _ _)::r,bs,cs,h,hl=>by simp[A0] at h
 | .sc (.map _)::r,bs,cs,h,hl=>by simp[A0] at h
 | .sc (.chan _)::r,bs,cs,h,hl=>by simp[A0] at h
 | .sc (.func _ _ _)::r,bs,cs,h,hl=>by simp[A0] at h
 | .sc (.nilFunc)::r,bs,cs,h,hl=>by simp[A0] at h
 | .sc (.iface _ _)::r,bs,cs,h,hl=>by simp[A0] at h
 | .sc (.nilIface)::r,bs,cs,h,hl=>by simp[A0] at h
 | .sc (.agg _)::r,bs,cs,h,hl=>by simp[A0] at h
 | .sc (.tuple _)::r,bs,cs,h,hl=>by simp[A0] at h
 | .sl _ _ _::r,bs,cs,h,hl=>by simp[A0] at h
theorem bX6 (hr:HR E H heap w) (hf:FR w fr frI) {x:Operand} (h:K1 E H w fr (.b2s x) v ob fz):J0 E heap w frI n p (.b2s x) v ob fz:=by
 simp only[K1,f6,Option.bind_eq_some_iff] at h
 obtain ⟨a,h1,h⟩:=h
 split at h
 case isFalse=>cases h
 rename_i hok
 simp only[Option.bind_eq_some_iff] at h
 obtain ⟨m,h2,l,h3,h⟩:=h
 split at h
 ·cases h
 rename_i hl2
 simp only[Bool.not_eq_true',Bool.not_eq_false,List.isEmpty_iff] at hl2
 simp only[Option.bind_eq_some_iff] at h
 obtain ⟨bs,h4,h⟩:=h
 cases h
 obtain ⟨aI,a1,a2⟩:=k9 hf h1
 obtain ⟨q1,q2⟩:=IX a2 h2
 have hls:Q7 a=some m:=by
  unfold Q7
  split
  ·rename_i s;exact absurd a2.scv (q2 s)
  ·exact h2
 obtain ⟨cs,c1,c2⟩:=(V1 hr a2 h3 (fun k hk=>by rw[hls] at hk;cases hk;exact Nat.le_refl _)).plain hr hl2
 have hb:=qR h4 c2
 refine ⟨_,[],?_,.pure (.mksc rfl)⟩
 simp only[a8,a1,Option.bind_some]
 have hcx:∀ k b e,aI ≠ .complex k b e:=by
  intro k b e ee
  subst ee
  cases a with
  |sl s k' l'=>
   simp only[b7,u7] at a2
   rcases a2 with ⟨_,_,e,_⟩|⟨_,h0,_,e|⟨hs,_⟩⟩
   ·cases e
   ·cases e
   ·exact (aJ (l:=l').1 hok).elim (fun h=>h hs) (fun h=>h h0)
  |sc u=>have:=a2.ok;have h':=a2.scv;subst h';cases this
  |slk s k' c' l'=>simp only[b7] at a2;rcases a2 with ⟨_,_,⟨_,e,_⟩|⟨_,_,_,_,e⟩⟩<;>cases e
  |ref o k' i c'=>simp only[b7] at a2;obtain ⟨_,_,_,e,_⟩:=a2;cases e
  |gr s o k'=>simp only[b7] at a2;rcases a2 with ⟨_,⟨_,e|⟨_,_,_,e,_⟩⟩|⟨_,_,e,_⟩⟩<;>cases e
  |_=>simp[V9] at h2
 unfold lenA at q1
 split at q1
 ·rename_i ad k c
  cases q1
  cases ad with
  |none=>
   simp only[n7] at c1
   split at c1
   ·cases c1
    simp only[bytesOf,Option.some.injEq] at hb
    subst hb
    rfl
   ·cases c1
  |some ad=>
   simp only[n7,Nat.mul_one] at c1
   simp[c1,hb]
 ·exact absurd rfl (hcx _ _ _)
 ·exact absurd rfl (q2 _)
 ·cases q1
theorem bA7 (hr:HR E H heap w) {t:TypeId} {e b:Nat} {x y:V} {xI yI:Value} (hx:b7 w x xI) (hy:b7 w y yI) (h:mB H w.nx t e b x y=some (v,ob,fz)):∃ vI bs,Z2 E ⟨heap,n,p⟩ t e b xI yI=some (vI,bs)∧hY heap w n v ob fz vI bs:=by
 simp only[mB,Option.bind_eq_some_iff] at h
 obtain ⟨m,hm,new,hnew,h⟩:=h
 have hlen:=oV hy hm
 split at h
 ·rename_i h0
  have key:∀ {a:Option Addr} {k c:Nat},xI= .slice a k c→F4 k c→Z2 E ⟨heap,n,p⟩ t e b xI yI=some (xI,[]):=by
   intro a k c e1 e2
   subst e1
   simp only[Z2,hlen,Option.bind_some]
   rw[if_pos h0,if_pos (by rw[Nat.ble_eq];exact e2)]
  split at h
  ·split at h
   case isFalse=>cases h
   rename_i hok
   cases h
   rw[aJ] at hok
   refine ⟨xI,[],?_,.pure hx⟩
   simp only[b7,u7] at hx
   rcases hx with ⟨a,c,rfl,_,k,_⟩|⟨_,rfl,_,rfl|⟨hs,_⟩⟩
   ·exact key rfl k
   ·exact key rfl (Nat.zero_le _)
   ·exact absurd hok (by omega)
  ·cases h
   refine ⟨xI,[],?_,.pure hx⟩
   simp only[b7] at hx
   rcases hx with ⟨hc,hn,⟨a,rfl,_⟩|⟨_,rfl,rfl,_,rfl⟩⟩
   ·exact key rfl (by unfold F4;rw[E0 hc];exact hn)
   ·exact key rfl (Nat.zero_le _)
  ·cases h
   refine ⟨xI,[],?_,.pure hx⟩
   simp only[b7] at hx
   obtain ⟨_,hc,b',rfl,_⟩:=hx
   exact key rfl hc
  ·cases h
   have hk:=hx.ok
   have:=hx.scv
   subst this
   simp only[B8,Bool.and_eq_true,i6] at hk
   obtain ⟨rfl,rfl⟩:=hk
   exact ⟨_,[],key rfl (Nat.zero_le _),.pure hx⟩
  ·cases h
 ·rename_i h0
  split at h
  case isFalse=>cases h
  rename_i hok
  simp only[Bool.and_eq_true,Bool.not_eq_true'] at hok
  have hm0:m ≠ 0:=by rw[i6] at h0;exact h0
  have he0:e ≠ 0:=by have:=hok.2;rw[← Bool.not_eq_true,i6] at this;exact this
  have hml:∀ k,Q7 y=some k→m≤k:=fun k hk=>by rw[hm] at hk;cases hk;exact Nat.le_refl _
  obtain ⟨cs,c1,c0,c3,c2⟩:=V1 hr hy hnew hml
  have hnl:=QV hnew hml
  have hnn:new.1.length ≠ 0:=by
   have:=Nat.mul_pos (Nat.pos_of_ne_zero hm0) (Nat.pos_of_ne_zero he0);omega
  have key:∀ {a:Option Addr} {k c:Nat} {old:List D × List Nat},xI= .slice a k c→c<v6→c<k+m→k+m≤r4→(k+m)*b≤r4→nY E heap w e k xI old→T6 old.1=true→
    ∃ vI bs,Z2 E ⟨heap,n,p⟩ t e b xI yI=some (vI,bs)∧hY heap w n (.gr 2 w.nx (k+m)) (some (.gro t e false (old.1++new.1))) (old.2++new.2) vI bs:=by
   intro a k c old e1 g1 g2 g3 g4 g5 g7
   obtain ⟨us,u1,u0,u3,u2⟩:=g5
   refine ⟨.slice (some ⟨n,0,some 0⟩) (k+m) (v6+(k+m)),[⟨us++cs,e,true,t⟩],?_,?_,rfl,?_,_,rfl,fun w' k1 k2 k3 k4 k5=>⟨.gr_new k4 k5 _ (by omega),rfl,rfl,rfl,
    (u2 w' k1 (fun o ho=>k2 o (List.mem_append.2 (.inl ho))) (fun o ho=>k3 o (List.mem_append.2 (.inl ho)))).append (c2 w' k1 (fun o ho=>k2 o (List.mem_append.2 (.inr ho))) (fun o ho=>k3 o (List.mem_append.2 (.inr ho))))⟩⟩
   ·subst e1
    simp only[Z2,hlen,Option.bind_some]
    rw[if_neg h0,if_pos (by simp only[Bool.and_eq_true,Nat.ble_eq,Nat.blt_eq];exact ⟨⟨⟨g3,g4⟩,g1⟩,g2⟩),c1]
    simp only[Option.bind_some,u1,Option.map_some]
   ·cases h1:old.1++new.1 with
    |nil=>
     have:=congrArg List.length h1
     rw[List.length_append,List.length_nil] at this
     omega
    |cons=>rfl
   ·simp only[Obj.ok,T6,List.all_append,Bool.and_eq_true]
    exact ⟨g7,hok.1⟩
  have hsn:nY E heap w e 0 (.slice none 0 0) ([],[]):=R4 ⟨[],rfl,by simp only[j6]⟩
  split at h
  ·split at h
   case isFalse=>cases h
   rename_i hc
   simp only[Bool.and_eq_true,Nat.ble_eq] at hc
   cases h
   have hk:=hx.ok
   have:=hx.scv
   subst this
   simp only[B8,Bool.and_eq_true,i6] at hk
   obtain ⟨rfl,rfl⟩:=hk
   have:=key rfl (by unfold v6;omega) (by omega) (by rw[Nat.zero_add];exact hc.1) (by rw[Nat.zero_add];exact hc.2) hsn rfl
   simpa only[Nat.zero_add,List.nil_append] using this
  ·rename_i s k c l
   split at h
   case isFalse=>cases h
   rename_i hc
   simp only[Bool.and_eq_true,Nat.ble_eq,Nat.blt_eq] at hc
   obtain ⟨g0,⟨⟨g2,g7⟩,g3⟩,g4⟩:=hc
   cases h
   have hx':=hx
   simp only[b7] at hx
   have hsrc:J8 H e k (.slk s k c l)=some (l,[]):=by
    simp only[J8]
    rw[if_pos ⟨g0,Nat.le_refl _⟩,List.take_of_length_le (by omega)]
   have hso:=V1 hr hx' hsrc (fun j hj=>by simp[Q7,V9] at hj;omega)
   rcases hx with ⟨hcb,hn,⟨a,rfl,_⟩|⟨_,rfl,rfl,_,rfl⟩⟩
   ·exact key rfl hcb g2 g3 g4 hso g7
   ·exact key rfl hcb g2 g3 g4 hso g7
  ·rename_i o k j c
   split at h
   case isFalse=>cases h
   rename_i hc
   simp only[Bool.and_eq_true,Nat.ble_eq,Nat.blt_eq] at hc
   obtain ⟨⟨⟨g1,g2⟩,g3⟩,g4⟩:=hc
   simp only[Option.bind_eq_some_iff] at h
   obtain ⟨l,hsrc,h⟩:=h
   split at h
   case isFalse=>cases h
   rename_i g7
   cases h
   have hso:=V1 hr hx hsrc (fun i hi=>by simp[Q7,V9] at hi;omega)
   simp only[b7] at hx
   obtain ⟨_,_,b',rfl,_⟩:=hx
   exact key rfl g1 g2 g3 g4 hso g7
  ·cases h
theorem bX5 (hr:HR E H heap w) (hf:FR w fr frI) {t:TypeId} {e b:Nat} {x y:Operand} (h:K1 E H w fr (.app t e b x y) v ob fz):J0 E heap w frI n p (.app t e b x y) v ob fz:=by
 simp only[K1,f6,Option.bind_eq_some_iff] at h
 obtain ⟨a,h1,c,h2,h⟩:=h
 obtain ⟨aI,a1,a2⟩:=k9 hf h1
 obtain ⟨bI,b1,b2⟩:=k9 hf h2
 obtain ⟨vI,bs,e1,e2⟩:=bA7 hr a2 b2 h (n:=n) (p:=p)
 exact ⟨vI,bs,by simp[a8,a1,b1,e1],e2⟩
theorem bL2 (hf:FR w fr frI) {g lit:Bool} {ts:List TypeId} {x y:Operand} (h:K1 E H w fr (.eqIf g lit ts x y) v ob fz):J0 E heap w frI n p (.eqIf g lit ts x y) v ob fz:=by
 simp only[K1,f6,Option.bind_eq_some_iff] at h
 obtain ⟨a,h1,c,h2,h⟩:=h
 obtain ⟨aI,a1,a2⟩:=k9 hf h1
 obtain ⟨bI,b1,b2⟩:=k9 hf h2
 split at h
 ·simp only[Option.bind_eq_some_iff] at h
  obtain ⟨r,hr,h⟩:=h
  cases h
  rw[a2.scv] at a1
  rw[b2.scv] at b1
  exact ⟨_,[],by simp[a8,a1,b1,hr],.pure (.mksc rfl)⟩
 ·cases h
  rw[b2.scv] at b1
  simp only[b7] at a2
  obtain ⟨u,rfl,_⟩:=a2
  exact ⟨_,[],by simp[a8,a1,b1,wD],.pure (.mksc rfl)⟩
 ·cases h
theorem sW:∀ {ps:List (Nat × Nat)} {xs ys:List V} {cs ds:List Value} {q:Bool},U1 ps xs ys=some q→d8 w xs cs→d8 w ys ds→bR ps cs ds=some q
 | [],xs,ys,cs,ds,q,h,_,_=>h
 |(o,c)::r,xs,ys,cs,ds,q,h,h1,h2=>by
  simp only[U1] at h
  cases hx:A5 xs o with
  |none=>rw[hx] at h;simp[Y4,HK] at h
  |some x=>
   cases hy:A5 ys o with
   |none=>rw[hx,hy] at h;cases x<;>simp[Y4,HK] at h
   |some y=>
    obtain ⟨a,ha,ra⟩:=iX h1 hx
    obtain ⟨b,hb,rb⟩:=iX h2 hy
    rw[hx,hy] at h
    simp only[bR,ha,hb,Option.bind_some]
    cases x<;>cases y<;>first|(simp[Y4,HK] at h;done)|skip
    rename_i x y
    rw[ra.scv,rb.scv]
    simp only[Y4] at h
    cases he:qW c x y with
    |none=>rw[he] at h;simp[HK] at h
    |some p=>
     rw[he] at h
     cases p with
     |false=>simpa [HK] using h
     |true=>simp only[HK] at h;simp only[Option.bind_some];exact sW h h1 h2
theorem bB6 (hf:FR w fr frI) {g:Bool} {ps:List (Nat × Nat)} {x y:Operand} (h:K1 E H w fr (.eqAgg g ps x y) v ob fz):J0 E heap w frI n p (.eqAgg g ps x y) v ob fz:=by
 simp only[K1,f6,Option.bind_eq_some_iff,Option.map_eq_some_iff] at h
 obtain ⟨a,h1,c,h2,r,h3,h⟩:=h
 cases h
 obtain ⟨aI,a1,a2⟩:=k9 hf h1
 obtain ⟨bI,b1,b2⟩:=k9 hf h2
 unfold qV at h3
 split at h3
 case h_2=>cases h3
 rename_i xs ys
 simp only[Option.map_eq_some_iff] at h3
 obtain ⟨q,hq,rfl⟩:=h3
 simp only[b7] at a2 b2
 obtain ⟨cs,rfl,k1⟩:=a2
 obtain ⟨ds,rfl,k2⟩:=b2
 exact ⟨_,[],by simp[a8,a1,b1,TY,sW hq k1 k2],.pure (.mksc rfl)⟩
theorem bB8 (hr:HR E H heap w) (hf:FR w fr frI) {g:Bool} {x y:Operand} (h:K1 E H w fr (.eqPtr g x y) v ob fz):J0 E heap w frI n p (.eqPtr g x y) v ob fz:=by
 simp only[K1,f6,Option.bind_eq_some_iff] at h
 obtain ⟨a,h1,c,h2,h⟩:=h
 obtain ⟨aI,a1,a2⟩:=k9 hf h1
 obtain ⟨bI,b1,b2⟩:=k9 hf h2
 split at h
 ·simp only[Option.bind_eq_some_iff] at h
  obtain ⟨r,hr,h⟩:=h
  cases h
  rw[a2.scv] at a1
  rw[b2.scv] at b1
  exact ⟨_,[],by simp[a8,a1,b1,hr],.pure (.mksc rfl)⟩
 ·cases h
  rw[a2.scv] at a1
  simp only[b7] at b2
  obtain ⟨_,u,rfl,_⟩:=b2
  exact ⟨_,[],by simp[a8,a1,b1,iK],.pure (.mksc rfl)⟩
 ·cases h
  rw[b2.scv] at b1
  simp only[b7] at a2
  obtain ⟨_,u,rfl,_⟩:=a2
  exact ⟨_,[],by simp[a8,a1,b1,iK],.pure (.mksc rfl)⟩
 ·rename_i o k o' k'
  split at h
  case isFalse=>cases h
  rename_i hc
  obtain ⟨rfl,hc⟩:=hc
  split at h
  ·cases h
  rename_i hne
  cases h
  obtain ⟨obj,ho⟩:=Option.isSome_iff_exists.1 hc
  have hnn:obj.none=false:=by
   cases obj with
   |gro t e z l=>exact absurd ho (hne t e z l)
   |_=>rfl
  obtain ⟨b,blk,m1,m2,m3⟩:=hr.obj o _ ho hnn
  simp only[b7] at a2 b2
  obtain ⟨_,u,rfl,q1⟩:=a2
  obtain ⟨_,u',rfl,q2⟩:=b2
  rw[q1 b m1] at a1
  rw[q2 b m1] at b1
  refine ⟨_,[],?_,.pure (.mksc rfl)⟩
  simp[a8,a1,b1,iK]
 ·cases h
theorem bC1 (hr:HR E H heap w) (hf:FR w fr frI) {x:Operand} (h:K1 E H w fr (.toUns x) v ob fz):J0 E heap w frI n p (.toUns x) v ob fz:=by
 simp only[K1,f6,Option.bind_eq_some_iff] at h
 obtain ⟨a,h1,h⟩:=h
 obtain ⟨aI,a1,a2⟩:=k9 hf h1
 split at h
 ·cases h
  rw[a2.scv] at a1
  exact ⟨_,[],by simp[a8,a1],.pure (.mksc rfl)⟩
 ·rename_i o k
  split at h
  case h_2=>cases h
  rename_i t e0 l ho
  split at h
  case isFalse=>cases h
  rename_i hk
  cases h
  obtain ⟨b,blk,m1,m2,m3⟩:=hr.obj o _ ho rfl
  have a2':=a2
  simp only[b7] at a2
  obtain ⟨_,u,rfl,q⟩:=a2
  have:=q b m1
  subst this
  refine ⟨_,[],?_,.pure a2'⟩
  simp only[a8,a1,Option.bind_some,OA,m2]
  rw[if_pos (by rw[Nat.blt_eq] at hk ⊢;rw[m3.2.2.2.length];exact hk)]
 ·cases h
theorem WJ (hr:HR E H heap w) (hf:FR w fr frI) {t:TypeId} {m:Nat} {x:Operand} (h:K1 E H w fr (.fromUns t m x) v ob fz):J0 E heap w frI n p (.fromUns t m x) v ob fz:=by
 simp only[K1,f6,Option.bind_eq_some_iff] at h
 obtain ⟨a,h1,h⟩:=h
 obtain ⟨aI,a1,a2⟩:=k9 hf h1
 split at h
 ·cases h
  rw[a2.scv] at a1
  exact ⟨_,[],by simp[a8,a1],.pure (.mksc rfl)⟩
 ·rename_i o k
  split at h
  case h_2=>cases h
  rename_i t' e0 l ho
  split at h
  case isFalse=>cases h
  rename_i hk
  cases h
  obtain ⟨b,blk,m1,m2,m3⟩:=hr.obj o _ ho rfl
  have a2':=a2
  simp only[b7] at a2
  obtain ⟨_,u,rfl,q⟩:=a2
  have:=q b m1
  subst this
  refine ⟨_,[],?_,.pure a2'⟩
  simp only[a8,a1,Option.bind_some,jX,m2]
  simp only[Bool.and_eq_true] at hk
  rw[if_pos (by simp only[Bool.and_eq_true,Bool.not_eq_true'];rw[m3.2.2.1,m3.2.1,m3.2.2.2.length];exact ⟨⟨⟨⟨hk.1.1.1,rfl⟩,hk.1.1.2⟩,hk.1.2⟩,hk.2⟩)]
 ·cases h
theorem bC0 (hf:FR w fr frI) {x:Operand} (h:K1 E H w fr (.sdata x) v ob fz):J0 E heap w frI n p (.sdata x) v ob fz:=by
 simp only[K1,f6,Option.bind_eq_some_iff] at h
 obtain ⟨a,h1,h⟩:=h
 obtain ⟨aI,a1,a2⟩:=k9 hf h1
 split at h
 ·cases h
  rw[a2.scv] at a1
  exact ⟨_,[],by simp[a8,a1],.pure (.mksc rfl)⟩
 ·rename_i o k j c
  split at h
  ·cases h
  rename_i hc
  cases h
  simp only[b7] at a2
  obtain ⟨q1,q2,u,rfl,q⟩:=a2
  refine ⟨_,[],by simp only[a8,a1,Option.bind_some];rw[if_neg hc],.pure ?_⟩
  simp only[b7]
  exact ⟨q1,u,rfl,q⟩
 ·rename_i s o j
  split at h
  ·cases h
  rename_i hc
  rw[i6] at hc
  cases h
  simp only[b7] at a2
  rcases a2 with ⟨q1,⟨h0,_⟩|⟨_,u,rfl,q⟩⟩
  ·exact absurd h0 hc
  refine ⟨.pointer (some ⟨u,0,some 0⟩),[],?_,.pure ?_⟩
  ·simp only[a8,a1,Option.bind_some]
   rw[if_neg]
   simp only[Bool.or_eq_true,i6]
   unfold v6
   omega
  ·simp only[b7]
   exact ⟨q1,u,rfl,q⟩
 ·cases h
theorem ZV {z:List Value} {p:Value→Bool} (h:z.all p=true):∀ n,(rep z n).all p=true
 |0=>rfl
 |n+1=>by simp only[rep,List.all_append,Bool.and_eq_true];exact ⟨h,ZV h n⟩
theorem bW3 {z:List Value} (h:z ≠ []) {n:Nat} (hn:0<n):rep z n ≠ []:=by
 cases n with
 |zero=>exact absurd hn (Nat.lt_irrefl 0)
 |succ n=>cases z with
  |nil=>exact absurd rfl h
  |cons a r=>simp[rep]
theorem bB2 (hr:HR E H heap w) (hf:FR w fr frI) {t:TypeId} {e b:Nat} {z:List Value} {x y:Operand} (h:K1 E H w fr (.appMk t e b z x y) v ob fz):J0 E heap w frI n p (.appMk t e b z x y) v ob fz:=by
 simp only[K1,f6,Option.bind_eq_some_iff] at h
 obtain ⟨a,h1,c,h2,h⟩:=h
 obtain ⟨xI,a1,hx⟩:=k9 hf h1
 obtain ⟨bI,b1,b2⟩:=k9 hf h2
 unfold AP at h
 split at h
 case h_2=>cases h
 rename_i k
 rw[b2.scv] at b1
 have fin:∀ {vI:Value} {bs:List u6},mL E ⟨heap,n,p⟩ t e b z xI (.int .i64 k)=some (vI,bs)→hY heap w n v ob fz vI bs→J0 E heap w frI n p (.appMk t e b z x y) v ob fz:=fun h1 h2=>
  ⟨_,_,by simp only[a8,a1,b1,Option.bind_some];exact h1,h2⟩
 split at h
 ·rename_i h0
  subst h0
  have key:∀ {a:Option Addr} {k c:Nat},xI= .slice a k c→F4 k c→mL E ⟨heap,n,p⟩ t e b z xI (.int .i64 0)=some (xI,[]):=by
   intro a k c e1 e2
   subst e1
   simp only[mL]
   rw[if_pos trivial,if_pos (by rw[Nat.ble_eq];exact e2)]
  split at h
  ·split at h
   case isFalse=>cases h
   rename_i hok
   cases h
   rw[aJ] at hok
   have hx':=hx
   simp only[b7,u7] at hx
   rcases hx with ⟨a,c,rfl,_,k,_⟩|⟨_,rfl,_,rfl|⟨hs,_⟩⟩
   ·exact fin (key rfl k) (.pure hx')
   ·exact fin (key rfl (Nat.zero_le _)) (.pure hx')
   ·exact absurd hok (by omega)
  ·cases h
   have hx':=hx
   simp only[b7] at hx
   rcases hx with ⟨hc,hn,⟨a,rfl,_⟩|⟨_,rfl,rfl,_,rfl⟩⟩
   ·exact fin (key rfl (by unfold F4;rw[E0 hc];exact hn)) (.pure hx')
   ·exact fin (key rfl (Nat.zero_le _)) (.pure hx')
  ·cases h
   have hx':=hx
   simp only[b7] at hx
   obtain ⟨_,hc,b',rfl,_⟩:=hx
   exact fin (key rfl hc) (.pure hx')
  ·cases h
   have hk:=hx.ok
   have:=hx.scv
   subst this
   simp only[B8,Bool.and_eq_true,i6] at hk
   obtain ⟨rfl,rfl⟩:=hk
   exact fin (key rfl (Nat.zero_le _)) (.pure hx)
  ·cases h
 ·rename_i h0
  split at h
  case isFalse=>cases h
  rename_i hc
  obtain ⟨c1,c2,c3,c4⟩:=hc
  have hrz:=j6.sc (w:=w) (rep z k.toNat) (ZV c3 _)
  have hrn:rep z k.toNat ≠ []:=bW3 c4 (by omega)
  have key:∀ {a:Option Addr} {j c:Nat} {old:List D},xI= .slice a j c→c<v6→c<j+k.toNat→j+k.toNat≤r4→(j+k.toNat)*b≤r4→nY E heap w e j xI (old,[])→T6 old=true→
    v= .gr 2 w.nx (j+k.toNat)→ob=some (.gro t e false (old++BD (rep z k.toNat)))→fz= []→J0 E heap w frI n p (.appMk t e b z x y) v ob fz:=by
   intro a j c old e1 g1 g2 g3 g4 g5 g7 r1 r2 r3
   subst r1 r2 r3
   obtain ⟨us,u1,u0,u3,u2⟩:=g5
   refine fin (vI:= .slice (some ⟨n,0,some 0⟩) (j+k.toNat) (v6+(j+k.toNat))) (bs:= [⟨us++rep z k.toNat,e,true,t⟩]) ?_ ⟨?_,rfl,?_,_,rfl,fun w' k1 k2 k3 k4 k5=>⟨.gr_new k4 k5 _ (by omega),rfl,rfl,rfl,
    (u2 w' k1 (fun o ho=>by cases ho) (fun o ho=>by cases ho)).append (hrz.mono k1)⟩⟩
   ·subst e1
    simp only[mL]
    rw[if_neg h0,if_pos ⟨c1,c2⟩,if_pos (by
     simp only[Bool.and_eq_true,Nat.ble_eq,Nat.blt_eq,Bool.not_eq_true',← Bool.not_eq_true];exact ⟨⟨⟨g3,g4⟩,g1⟩,by omega⟩),u1]
    rfl
   ·cases h1:old++BD (rep z k.toNat) with
    |nil=>
     have:=congrArg List.length h1
     simp only[List.length_append,List.length_nil,BD,List.length_map] at this
     exact absurd (List.eq_nil_of_length_eq_zero (by omega)) hrn
    |cons=>rfl
   ·simp only[Obj.ok,T6,List.all_append,Bool.and_eq_true]
    exact ⟨g7,UX _⟩
  have hsn:nY E heap w e 0 (.slice none 0 0) ([],[]):=R4 ⟨[],rfl,by simp only[j6]⟩
  split at h
  ·split at h
   case isFalse=>cases h
   rename_i hc
   rw[Nat.ble_eq] at hc
   cases h
   have hk:=hx.ok
   have:=hx.scv
   subst this
   simp only[B8,Bool.and_eq_true,i6] at hk
   obtain ⟨rfl,rfl⟩:=hk
   exact key rfl (by unfold v6;omega) (by omega) (by unfold r4 at c2 ⊢;omega) (by rw[Nat.zero_add];exact hc) hsn rfl (by rw[Nat.zero_add]) rfl rfl
  ·rename_i s j c l
   split at h
   case isFalse=>cases h
   rename_i hc
   simp only[Bool.and_eq_true,Nat.ble_eq,Nat.blt_eq] at hc
   obtain ⟨g0,⟨⟨g2,g7⟩,g3⟩,g4⟩:=hc
   cases h
   have hx':=hx
   simp only[b7] at hx
   have hsrc:J8 H e j (.slk s j c l)=some (l,[]):=by
    simp only[J8]
    rw[if_pos ⟨g0,Nat.le_refl _⟩,List.take_of_length_le (by omega)]
   have hso:=V1 hr hx' hsrc (fun i hi=>by simp[Q7,V9] at hi;omega)
   rcases hx with ⟨hcb,hn,⟨a,rfl,_⟩|⟨_,rfl,rfl,_,rfl⟩⟩
   ·exact key rfl hcb g2 g3 g4 hso g7 rfl rfl rfl
   ·exact key rfl hcb g2 g3 g4 hso g7 rfl rfl rfl
  ·cases h
theorem sF (hr:HR E H heap w) (hf:FR w fr frI) {op:K3} (h:f6 E.old fr H w.nx op=some (v,ob,fz)):∃ vI bs,a8 E frI ⟨heap,n,p⟩ op=some (vI,bs)∧hY heap w n v ob fz vI bs:=by
 cases op with
 |mov x=>exact bY3 hf h
 |pick c a b=>exact bM1 hf h
 |alloc t z=>exact bB1 h
 |box t x=>exact bX8 hf h
 |build z ps=>exact bB3 hf h
 |mkRow t e n z ps=>exact bB9 hf h
 |load g a=>exact bL8 hr hf h
 |nilChk x=>exact aJ8 hf h
 |bin op x y=>exact bX7 hf h
 |eqB g x y=>exact bY0 hf h
 |eqNil k g x y=>exact bB7 hf h
 |un op x=>exact cG5 hf h
 |convI k x=>exact bB4 hf h
 |convS x=>exact bB5 hf h
 |b2s x=>exact bX6 hr hf h
 |mkSlice t e b z l c=>exact WK hf h
 |slcS x lo hi=>exact bM3 hf h
 |slc e x lo hi mx=>exact bY5 hf h
 |slcA n e x lo hi=>exact bM2 hf h
 |fldA o x=>exact bL3 hf h
 |fldV o g x=>exact bL4 hf h
 |idxS e x i=>exact bL6 hf h
 |idxA n e x i=>exact bL5 hf h
 |idxStr x i=>exact aJ7 hf h
 |idxV n e g x i=>exact bL7 hf h
 |ext x i=>exact bY1 hf h
 |mkFn f a b=>exact bL9 hf h
 |mkIf t x=>exact bM0 hf h
 |len t x=>exact bY2 hf h
 |mm g x y=>exact cG4 hf h
 |app t e b x y=>exact bX5 hr hf h
 |appMk t e b z x y=>exact bB2 hr hf h
 |eqIf g l ts x y=>exact bL2 hf h
 |eqAgg g ps x y=>exact bB6 hf h
 |eqPtr g x y=>exact bB8 hr hf h
 |s2b t x=>exact bY4 hf h
 |cap x=>exact bX9 hf h
 |rangeS x=>exact aJ9 hf h
 |toUns x=>exact bC1 hr hf h
 |fromUns t n x=>exact WJ hr hf h
 |sdata x=>exact bC0 hf h
 |_=>simp[f6] at h
end
section
variable {C:C5} {st:l8} {s:St} {μ:Nat→Option Nat} {F:Nat→Prop}
theorem S7 (fz:List Nat):∀ (H:E4) (i:Nat),f8 (C0 fz H) i=(f8 H i).map fun o=>if l7 i fz then o.froz else o
 | [],i=>rfl
 |(j,o)::r,i=>by
  simp only[C0]
  rw[k7,k7,S7 fz r i]
  by_cases h:i=j
  ·subst h;simp
  ·rw[if_neg h,if_neg h]
theorem bC (o:Obj):o.froz.none=o.none:=by
 cases o with
 |gro t e z l=>cases l<;>rfl
 |_=>rfl
theorem IP (o:Obj):o.froz.ok=o.ok:=by cases o<;>rfl
theorem wP {w:VW} {o:Obj} {b:u6} (h:qG w o b):qG w o.froz b:=by cases o<;>exact h
theorem z6 (H:E4):C0 [] H=H:=by
 induction H with
 |nil=>rfl
 |cons x r ih=>obtain ⟨j,o⟩:=x;simp[C0,l7,ih]
theorem T3 {ro:Nat} {H:E4}:∀ {fz:List Nat},E1 ro H fz=true→∀ o ∈ fz,∃ ob,f8 H o=some ob∧ob.froz.fz=true∧ro≤o
 | [],_,o,h=>by cases h
 |i::r,h,o,ho=>by
  simp only[E1,Bool.and_eq_true,Nat.ble_eq] at h
  rcases List.mem_cons.1 ho with rfl|ho
  ·have:=h.1.2
   split at this
   ·rename_i e;exact ⟨_,e,rfl,h.1.1⟩
   ·rename_i e;exact ⟨_,e,rfl,h.1.1⟩
   ·cases this
  ·exact T3 h.2 o ho
theorem SR.hr (h:SR C st s μ F):HR C.E st.own s.heap (u5 C st s μ F):=⟨rfl,h.obj,fun b hb=>(h.lt b hb).2⟩
theorem bO9 {w:VW} {n0:Nat} {d:D} {v:Value} (h:u7 w d v) (hok:JJ d=true):∀ i ∈ r5 n0 v,w.F i:=by
 intro i hi
 cases d with
 |sc x=>
  simp only[u7] at h
  rw[h.1,V0 n0 x h.2] at hi
  cases hi
 |sl s n l=>
  simp only[u7] at h
  rcases h with ⟨a,c,rfl,k,_⟩|⟨_,h0,_,rfl|⟨hs,_⟩⟩
  ·obtain ⟨b,o,sp⟩:=a
   cases sp with
   |none=>simp[r5,n5] at hi
   |some sp=>
    simp only[r5,n5] at hi
    split at hi
    ·simp at hi;subst hi;exact k
    ·cases hi
  ·simp[r5,n5] at hi
  ·exact ((aJ.1 hok).elim (fun h=>h hs) (fun h=>h h0)).elim
theorem wX {w:VW} {n0:Nat}:∀ {l:List D} {vs:List Value},j6 w l vs→T6 l=true→∀ i ∈ x8 n0 vs,w.F i
 | [],vs,h,_,i,hi=>by simp only[j6] at h;subst h;simp[x8] at hi
 |d::r,vs,h,hok,i,hi=>by
  simp only[j6] at h
  obtain ⟨v,vs',rfl,h1,h2⟩:=h
  simp only[T6,List.all_cons,Bool.and_eq_true] at hok
  simp only[x8,List.mem_append] at hi
  exact hi.elim (bO9 h1 hok.1 i) (wX h2 hok.2 i)
def aQ (μ:Nat→Option Nat) (F:Nat→Prop) (fz:List Nat) (b:Nat):Prop:=F b∨∃ o ∈ fz,μ o=some b
theorem SR.row_cl (h:SR C st s μ F) {o b:Nat} {ob:Obj} (ho:f8 st.own o=some ob) (hr:ob.froz.fz=true) (hb:μ o=some b):∃ blk,d9 s.heap b=some blk∧∀ n,∀ i ∈ x8 n blk.cells,F i:=by
 obtain ⟨_,_,ob',e1,e2⟩:=h.dom o b hb
 rw[ho] at e1
 cases e1
 obtain ⟨b',blk,m1,m2,m3⟩:=h.obj o ob ho e2
 rw[hb] at m1
 cases m1
 refine ⟨blk,m2,?_⟩
 have hok:=(h.own o ob ho).2
 cases ob with
 |box t l=>cases hr
 |row t e g z l=>exact fun n=>wX m3.2.2.2 hok
 |gro t e z l=>exact fun n=>wX m3.2.2.2 hok
theorem SR.fin_ge (h:SR C st s μ F) {fz:List Nat} (hrow:E1 st.ro st.own fz=true) {b:Nat} (hb:aQ μ F fz b):F b∨s.prot≤b:=by
 rcases hb with hb|⟨o,ho,e⟩
 ·exact .inl hb
 ·obtain ⟨ob,q1,q2,q3⟩:=T3 hrow o ho
  by_cases hz:ob.fz=true
  ·exact .inl (h.fz o ob b q1 e hz)
  ·exact .inr ((h.wr o ob b q1 e (by simpa using hz)).2 q3).1
theorem TB {E:E2} {heap:j9} {n:Nat} {blk:u6} {a:Addr} (h:a.spot=none∨a.block ≠ n):m9 E ((n,blk)::heap) a=m9 E heap a:=by
 obtain ⟨b,o,sp⟩:=a
 cases sp with
 |none=>rfl
 |some k=>
  have hb:b ≠ n:=by simpa using h
  simp only[m9]
  rw[l6,if_neg hb]
def UT (μ:Nat→Option Nat) (st:l8) (s:St):Option Obj→Nat→Option Nat
 |none=>μ
 |some _=>fun i=>if i=st.next then some s.next else μ i
theorem U3 (μ:Nat→Option Nat) (F:Nat→Prop):aQ μ F []=F:=by
 funext b
 simp[aQ]
theorem SR.push (h:SR C st s μ F) {v:V} {ob:Option Obj} {fz:List Nat} {vI:Value} {bs:List u6} (hP:hY s.heap (u5 C st s μ F) s.next v ob fz vI bs) (hrow:E1 st.ro st.own fz=true):
  SR C (st.push ob fz) (s.push bs) (UT μ st s ob) (aQ μ F fz)∧b7 (u5 C (st.push ob fz) (s.push bs) (UT μ st s ob) (aQ μ F fz)) v vI∧VW.le (u5 C st s μ F) (u5 C (st.push ob fz) (s.push bs) (UT μ st s ob) (aQ μ F fz))∧(∀ b,aQ μ F fz b→F b∨s.prot≤b):=by
 cases ob with
 |none=>
  obtain ⟨rfl,rfl,hv⟩:=hP
  have e:st.push none []=st:=by simp[l8.push,z6]
  rw[e,yL,U3]
  exact ⟨h,hv,⟨fun _ _=>rfl,fun _ hb=>hb,Nat.le_refl _,fun _ _ _ hb=>hb⟩,fun _ hb=> .inl hb⟩
 |some o=>
  obtain ⟨hn,hz,hok,blk,rfl,hP⟩:=hP
  rw[Z8]
  have hne:∀ o' b,μ o'=some b→b ≠ s.next:=fun o' b e=>Nat.ne_of_lt (h.dom o' b e).1
  let μ':Nat→Option Nat:=fun i=>if i=st.next then some s.next else μ i
  have hμn:μ st.next=none:=by
   cases e:μ st.next with
   |none=>rfl
   |some b=>have:=(h.dom _ b e).2.1;omega
  have hμ':∀ i b,μ' i=some b→(i=st.next∧b=s.next)∨(i ≠ st.next∧μ i=some b):=fun i b e=>by
   simp only[μ'] at e
   split at e
   ·rename_i hi;cases e;exact .inl ⟨hi,rfl⟩
   ·rename_i hi;exact .inr ⟨hi,e⟩
  have hle:VW.le (u5 C st s μ F) (u5 C (st.push (some o) fz) ⟨(s.next,blk)::s.heap,s.next+1,s.prot⟩ μ' (aQ μ F fz)):=by
   refine ⟨fun a i=>TB ?_,fun b hb=> .inl hb,by simp[l8.push],fun i b hi e=>?_⟩
   ·obtain ⟨b,o',sp⟩:=a
    cases sp with
    |none=>exact .inl rfl
    |some k=>exact .inr (Nat.ne_of_lt (h.lt b i).1)
   ·rcases hμ' i b e with ⟨hi',_⟩|⟨_,e⟩
    ·simp only at hi;omega
    ·exact e
  have hF:∀ b,aQ μ F fz b→b<s.next:=by
   rintro b (hb|⟨i,_,e⟩)
   ·exact (h.lt b hb).1
   ·exact (h.dom i b e).1
  have hget':∀ b,b<s.next→d9 ((s.next,blk)::s.heap) b=d9 s.heap b:=fun b hb=>by rw[l6,if_neg (by omega)]
  obtain ⟨p1,p2⟩:=hP _ hle (fun i hi b e=> .inr ⟨i,hi,e⟩) (fun i hi b e k sp blk' hb=>by
    simp only[m9,hget' b (hF b (.inr ⟨i,hi,e⟩)),hb,Option.bind_some,x6]) (by simp[l8.push]) (by simp[μ'])
  have hown:∀ i ob',f8 (st.push (some o) fz).own i=some ob'→(i=st.next∧ob'=o)∨(i ≠ st.next∧∃ ob0,f8 st.own i=some ob0∧ob'=if l7 i fz then ob0.froz else ob0):=fun i ob' e=>by
   simp only[l8.push] at e
   rw[k7] at e
   split at e
   ·rename_i hi;cases e;exact .inl ⟨hi,rfl⟩
   ·rename_i hi
    rw[S7] at e
    simp only[Option.map_eq_some_iff] at e
    obtain ⟨ob0,e1,e2⟩:=e
    exact .inr ⟨hi,ob0,e1,e2.symm⟩
  change SR C _ _ μ' _∧b7 (u5 C _ _ μ' _) v vI∧VW.le _ (u5 C _ _ μ' _)∧_
  refine ⟨⟨?_,?_,?_,?_,?_,?_,?_,?_,?_,?_,?_,?_,?_⟩,p1,hle,?_⟩
  ·intro i ob' e hn'
   rcases hown i ob' e with ⟨rfl,rfl⟩|⟨hi,ob0,e1,rfl⟩
   ·exact ⟨s.next,blk,by simp[μ'],by simp[l6],p2⟩
   ·have hn0:ob0.none=false:=by split at hn';(rw[bC] at hn';exact hn');exact hn'
    obtain ⟨b,blk0,m1,m2,m3⟩:=h.obj i ob0 e1 hn0
    refine ⟨b,blk0,by simp[μ',hi,m1],by simp only;rw[hget' b (h.dom i b m1).1];exact m2,?_⟩
    split
    ·exact wP (m3.mono hle)
    ·exact m3.mono hle
  ·intro i ob' b e e2 hz'
   rcases hown i ob' e with ⟨rfl,rfl⟩|⟨hi,ob0,e1,rfl⟩
   ·have:b=s.next:=by rcases hμ' _ b e2 with ⟨_,hb⟩|⟨hi',_⟩;exact hb;exact absurd rfl hi'
    subst this
    exact ⟨fun hb=>Nat.lt_irrefl _ (hF _ hb),fun _=>⟨h.pr,fun hb=>by have:=(h.un _ hb).1;have:=h.n0;omega⟩⟩
   ·have e3:μ i=some b:=by rcases hμ' i b e2 with ⟨hi',_⟩|⟨_,e3⟩;exact absurd hi' hi;exact e3
    by_cases hf:l7 i fz=true
    ·rw[if_pos hf] at hz'
     obtain ⟨ob1,q1,q2,_⟩:=T3 hrow i ((j7 _ _).1 hf)
     rw[e1] at q1;cases q1
     rw[hz'] at q2;cases q2
    ·rw[if_neg hf] at hz'
     obtain ⟨w2,w3⟩:=h.wr i ob0 b e1 e3 hz'
     refine ⟨?_,w3⟩
     rintro (hb|⟨j,hj,ej⟩)
     ·exact w2 hb
     ·have:=h.inj i j b e3 ej
      subst this
      exact hf ((j7 _ _).2 hj)
  ·intro i ob' b e e2 hz'
   rcases hown i ob' e with ⟨rfl,rfl⟩|⟨hi,ob0,e1,rfl⟩
   ·rw[hz] at hz';cases hz'
   ·have e3:μ i=some b:=by rcases hμ' i b e2 with ⟨hi',_⟩|⟨_,e3⟩;exact absurd hi' hi;exact e3
    by_cases hf:l7 i fz=true
    ·exact .inr ⟨i,(j7 _ _).1 hf,e3⟩
    ·rw[if_neg hf] at hz'
     exact .inl (h.fz i ob0 b e1 e3 hz')
  ·intro i j b ei ej
   rcases hμ' i b ei with ⟨hi,hb⟩|⟨hi,ei⟩<;>rcases hμ' j b ej with ⟨hj,hb'⟩|⟨hj,ej⟩
   ·rw[hi,hj]
   ·exact absurd hb (hne j b ej)
   ·exact absurd hb' (hne i b ei)
   ·exact h.inj i j b ei ej
  ·intro i b e
   rcases hμ' i b e with ⟨rfl,rfl⟩|⟨hi,e⟩
   ·exact ⟨by simp,by simp[l8.push],o,by simp[l8.push,k7],hn⟩
   ·obtain ⟨d1,d2,ob0,d3,d4⟩:=h.dom i b e
    refine ⟨by simp only;omega,by simp only[l8.push];omega,(if l7 i fz then ob0.froz else ob0),?_,?_⟩
    ·simp only[l8.push]
     rw[k7,if_neg hi,S7,d3];rfl
    ·split
     ·rw[bC];exact d4
     ·exact d4
  ·intro b hb
   have hlt:=hF b hb
   refine ⟨by simp only;omega,?_⟩
   simp only
   rw[hget' b hlt]
   rcases hb with hb|⟨i,_,e⟩
   ·exact (h.lt b hb).2
   ·obtain ⟨_,_,ob0,d3,d4⟩:=h.dom i b e
    obtain ⟨b',blk0,m1,m2,_⟩:=h.obj i ob0 d3 d4
    rw[e] at m1;cases m1
    exact ⟨blk0,m2⟩
  ·intro b hb
   have hlt:=hF b hb
   simp only
   rw[hget' b hlt]
   rcases hb with hb|⟨i,hi,e⟩
   ·obtain ⟨blk0,c1,c2⟩:=h.cl b hb
    exact ⟨blk0,c1,fun n j hj=> .inl (c2 n j hj)⟩
   ·obtain ⟨ob0,q1,q2,_⟩:=T3 hrow i hi
    obtain ⟨blk0,c1,c2⟩:=h.row_cl q1 q2 e
    exact ⟨blk0,c1,fun n j hj=> .inl (c2 n j hj)⟩
  ·intro b hb
   obtain ⟨u1,u2⟩:=h.un b hb
   exact ⟨u1,by simp only;rw[hget' b (by have:=h.n0;omega)];exact u2⟩
  ·have:=h.n0;simp only;omega
  ·intro i ob' e
   rcases hown i ob' e with ⟨rfl,rfl⟩|⟨hi,ob0,e1,rfl⟩
   ·exact ⟨by simp[l8.push],hok⟩
   ·obtain ⟨o1,o2⟩:=h.own i ob0 e1
    refine ⟨by simp only[l8.push];omega,?_⟩
    split
    ·rw[IP];exact o2
    ·exact o2
  ·intro b blk' e
   simp only at e ⊢
   rw[l6] at e
   split at e
   ·omega
   ·have:=h.hb b blk' e;omega
  ·have:=h.pr;simp only;omega
  ·intro i b e hi
   rcases hμ' i b e with ⟨rfl,rfl⟩|⟨_,e⟩
   ·exact h.pr
   ·exact h.pb i b e hi
  ·rintro b (hb|hb)
   ·exact .inl hb
   ·exact h.fin_ge hrow (.inr hb)
theorem SR.upd (h:SR C st s μ F) {o b:Nat} {ob:Obj} {blk:u6} (ho:f8 st.own o=some ob) (hz:ob.fz=false) (hro:st.ro≤o) (hμ:μ o=some b) (hbk:d9 s.heap b=some blk) {fz:List Nat} (hrow:E1 st.ro st.own fz=true) (hof:o ∉ fz)
  {ob':Obj} {blk':u6} (hn':ob'.none=false) (hz':ob'.fz=false) (hok:ob'.ok=true) (hrep:∀ w',VW.le (u5 C st s μ F) w'→Fin (u5 C st s μ F) w' fz→LdX s.heap (u5 C st s μ F) w' fz→qG w' ob' blk'):
  SR C ⟨A3 (C0 fz st.own) o ob',st.next,st.ro⟩ {s with heap:=M4 s.heap b blk'} μ (aQ μ F fz)∧VW.le (u5 C st s μ F) (u5 C ⟨A3 (C0 fz st.own) o ob',st.next,st.ro⟩ {s with heap:=M4 s.heap b blk'} μ (aQ μ F fz))∧s.prot≤b:=by
 obtain ⟨wr2,wr1'⟩:=h.wr o ob b ho hμ hz
 obtain ⟨wr1,wr3⟩:=wr1' hro
 have hFb:¬ aQ μ F fz b:=by
  rintro (hb|⟨j,hj,ej⟩)
  ·exact wr2 hb
  ·have:=h.inj o j b hμ ej
   subst this
   exact hof hj
 have hgs:∀ j,d9 (M4 s.heap b blk') j=if j=b then some blk' else d9 s.heap j:=fun j=>M0 _ _ _ _ _ hbk
 have hle:VW.le (u5 C st s μ F) (u5 C ⟨A3 (C0 fz st.own) o ob',st.next,st.ro⟩ {s with heap:=M4 s.heap b blk'} μ (aQ μ F fz)):=by
  refine ⟨fun a i=>?_,fun c hc=> .inl hc,Nat.le_refl _,fun i c _ e=>e⟩
  obtain ⟨c,k,sp⟩:=a
  cases sp with
  |none=>rfl
  |some sp=>
   have hcb:c ≠ b:=fun e=>by subst e;exact wr2 i
   simp only[m9,hgs c,if_neg hcb]
 have hrp:=hrep _ hle (fun i hi c e=> .inr ⟨i,hi,e⟩) (fun i hi c e k sp blk0 hc=>by
  have hcb:c ≠ b:=fun e'=>by subst e';exact hFb (.inr ⟨i,hi,e⟩)
  simp only[m9,hgs c,if_neg hcb,hc,Option.bind_some,x6])
 have hfo:∃ x,f8 (C0 fz st.own) o=some x:=by rw[S7,ho];exact ⟨_,rfl⟩
 obtain ⟨x0,hx0⟩:=hfo
 have hown:∀ i obj,f8 (A3 (C0 fz st.own) o ob') i=some obj→(i=o∧obj=ob')∨(i ≠ o∧∃ ob0,f8 st.own i=some ob0∧obj=if l7 i fz then ob0.froz else ob0):=fun i obj e=>by
  rw[O3 _ _ _ _ _ hx0] at e
  split at e
  ·rename_i hi;cases e;exact .inl ⟨hi,rfl⟩
  ·rename_i hi
   rw[S7] at e
   simp only[Option.map_eq_some_iff] at e
   obtain ⟨ob0,e1,e2⟩:=e
   exact .inr ⟨hi,ob0,e1,e2.symm⟩
 have hne:∀ i c,i ≠ o→μ i=some c→c ≠ b:=fun i c hi e hc=>by subst hc;exact hi (h.inj i o c e hμ)
 refine ⟨⟨?_,?_,?_,h.inj,?_,?_,?_,?_,h.n0,?_,?_,h.pr,h.pb⟩,hle,wr1⟩
 ·intro i obj e hn
  rcases hown i obj e with ⟨rfl,rfl⟩|⟨hi,ob0,e1,rfl⟩
  ·exact ⟨b,blk',hμ,by simp only;rw[hgs,if_pos rfl],hrp⟩
  ·have hn0:ob0.none=false:=by split at hn;(rw[bC] at hn;exact hn);exact hn
   obtain ⟨c,blk0,m1,m2,m3⟩:=h.obj i ob0 e1 hn0
   refine ⟨c,blk0,m1,by simp only;rw[hgs,if_neg (hne i c hi m1)];exact m2,?_⟩
   split
   ·exact wP (m3.mono hle)
   ·exact m3.mono hle
 ·intro i obj c e e3 hzz
  rcases hown i obj e with ⟨rfl,rfl⟩|⟨hi,ob0,e1,rfl⟩
  ·rw[hμ] at e3;cases e3;exact ⟨hFb,fun _=>⟨wr1,wr3⟩⟩
  ·by_cases hf:l7 i fz=true
   ·rw[if_pos hf] at hzz
    obtain ⟨ob1,q1,q2,_⟩:=T3 hrow i ((j7 _ _).1 hf)
    rw[e1] at q1;cases q1
    rw[hzz] at q2;cases q2
   ·rw[if_neg hf] at hzz
    obtain ⟨w2,w3⟩:=h.wr i ob0 c e1 e3 hzz
    refine ⟨?_,w3⟩
    rintro (hb|⟨j,hj,ej⟩)
    ·exact w2 hb
    ·have:=h.inj i j c e3 ej
     subst this
     exact hf ((j7 _ _).2 hj)
 ·intro i obj c e e3 hzz
  rcases hown i obj e with ⟨rfl,rfl⟩|⟨hi,ob0,e1,rfl⟩
  ·rw[hz'] at hzz;cases hzz
  ·by_cases hf:l7 i fz=true
   ·exact .inr ⟨i,(j7 _ _).1 hf,e3⟩
   ·rw[if_neg hf] at hzz
    exact .inl (h.fz i ob0 c e1 e3 hzz)
 ·intro i c e
  obtain ⟨d1,d2,ob0,d3,d4⟩:=h.dom i c e
  refine ⟨d1,d2,?_⟩
  by_cases hi:i=o
  ·subst hi
   exact ⟨ob',by simp only;rw[O3 _ _ _ _ _ hx0,if_pos rfl],hn'⟩
  ·refine ⟨(if l7 i fz then ob0.froz else ob0),by simp only;rw[O3 _ _ _ _ _ hx0,if_neg hi,S7,d3];rfl,?_⟩
   split
   ·rw[bC];exact d4
   ·exact d4
 ·intro c hc
  have hcb:c ≠ b:=fun e=>by subst e;exact hFb hc
  simp only
  rw[hgs,if_neg hcb]
  rcases hc with hc|⟨i,_,e⟩
  ·exact h.lt c hc
  ·obtain ⟨d1,_,ob0,d3,d4⟩:=h.dom i c e
   obtain ⟨b',blk0,m1,m2,_⟩:=h.obj i ob0 d3 d4
   rw[e] at m1;cases m1
   exact ⟨d1,blk0,m2⟩
 ·intro c hc
  have hcb:c ≠ b:=fun e=>by subst e;exact hFb hc
  simp only
  rw[hgs,if_neg hcb]
  rcases hc with hc|⟨i,hi,e⟩
  ·obtain ⟨blk0,c1,c2⟩:=h.cl c hc
   exact ⟨blk0,c1,fun n j hj=> .inl (c2 n j hj)⟩
  ·obtain ⟨ob0,q1,q2,_⟩:=T3 hrow i hi
   obtain ⟨blk0,c1,c2⟩:=h.row_cl q1 q2 e
   exact ⟨blk0,c1,fun n j hj=> .inl (c2 n j hj)⟩
 ·intro c hc
  obtain ⟨u1,u2⟩:=h.un c hc
  have hcb:c ≠ b:=fun e=>by subst e;exact wr3 hc
  exact ⟨u1,by simp only;rw[hgs,if_neg hcb];exact u2⟩
 ·intro i obj e
  rcases hown i obj e with ⟨rfl,rfl⟩|⟨hi,ob0,e1,rfl⟩
  ·exact ⟨(h.own i ob ho).1,hok⟩
  ·obtain ⟨o1,o2⟩:=h.own i ob0 e1
   refine ⟨o1,?_⟩
   split
   ·rw[IP];exact o2
   ·exact o2
 ·intro c blk0 e
  simp only at e ⊢
  rw[hgs] at e
  split at e
  ·rename_i hc;subst hc;exact h.hb c blk hbk
  ·exact h.hb c blk0 e
theorem G6:∀ (h:j9) (i j:Nat),j ≠ i→d9 (G5 h i) j=d9 h j
 | [],i,j,_=>rfl
 |(k,u)::r,i,j,hj=>by
  simp only[G5]
  split
  ·rename_i hk
   have:=i6.1 hk
   subst this
   rw[l6,if_neg hj]
  ·rw[l6,l6,G6 r i j hj]
theorem bV:∀ (h:j9) (i j:Nat) (b:u6),d9 (G5 h i) j=some b→∃ c,d9 h j=some c
 | [],i,j,b,h=>by cases h
 |(k,u)::r,i,j,b,h=>by
  simp only[G5] at h
  rw[l6]
  split at h
  ·split
   ·exact ⟨_,rfl⟩
   ·exact ⟨_,h⟩
  ·rw[l6] at h
   split
   ·exact ⟨_,rfl⟩
   ·rename_i hj
    rw[if_neg hj] at h
    exact bV r i j b h
theorem SR.del (h:SR C st s μ F) {o b:Nat} {ob:Obj} (ho:f8 st.own o=some ob) (hz:ob.fz=false) (hro:st.ro≤o) (hμ:μ o=some b):
  SR C ⟨H9 o st.own,st.next,st.ro⟩ {s with heap:=G5 s.heap b} (fun i=>if i=o then none else μ i) F∧VW.le (u5 C st s μ F) (u5 C ⟨H9 o st.own,st.next,st.ro⟩ {s with heap:=G5 s.heap b} (fun i=>if i=o then none else μ i) F)∧s.prot≤b:=by
 obtain ⟨wr2,wr1'⟩:=h.wr o ob b ho hμ hz
 obtain ⟨wr1,wr3⟩:=wr1' hro
 have hle:VW.le (u5 C st s μ F) (u5 C ⟨H9 o st.own,st.next,st.ro⟩ {s with heap:=G5 s.heap b} (fun i=>if i=o then none else μ i) F):=by
  refine ⟨fun a i=>?_,fun c hc=>hc,Nat.le_refl _,fun i c _ e=>?_⟩
  ·obtain ⟨c,k,sp⟩:=a
   cases sp with
   |none=>rfl
   |some sp=>
    have hcb:c ≠ b:=fun e=>by subst e;exact wr2 i
    simp only[m9,G6 _ _ _ hcb]
  ·simp only at e
   split at e
   ·cases e
   ·exact e
 have hown:∀ i obj,f8 (H9 o st.own) i=some obj→i ≠ o∧f8 st.own i=some obj:=fun i obj e=>by
  rw[G9] at e
  split at e
  ·cases e
  ·rename_i hi;exact ⟨hi,e⟩
 have hne:∀ i c,i ≠ o→μ i=some c→c ≠ b:=fun i c hi e hc=>by subst hc;exact hi (h.inj i o c e hμ)
 refine ⟨⟨?_,?_,?_,?_,?_,?_,?_,?_,h.n0,?_,?_,h.pr,fun i c e hi=>?_⟩,hle,wr1⟩
 ·intro i obj e hn
  obtain ⟨hi,e1⟩:=hown i obj e
  obtain ⟨c,blk0,m1,m2,m3⟩:=h.obj i obj e1 hn
  exact ⟨c,blk0,by rw[if_neg hi];exact m1,by simp only;rw[G6 _ _ _ (hne i c hi m1)];exact m2,m3.mono hle⟩
 ·intro i obj c e e3 hzz
  obtain ⟨hi,e1⟩:=hown i obj e
  simp only[if_neg hi] at e3
  exact h.wr i obj c e1 e3 hzz
 ·intro i obj c e e3 hzz
  obtain ⟨hi,e1⟩:=hown i obj e
  simp only[if_neg hi] at e3
  exact h.fz i obj c e1 e3 hzz
 ·intro i j c e1 e2
  split at e1
  ·cases e1
  ·split at e2
   ·cases e2
   ·exact h.inj i j c e1 e2
 ·intro i c e
  split at e
  ·cases e
  ·rename_i hi
   obtain ⟨d1,d2,ob0,d3,d4⟩:=h.dom i c e
   exact ⟨d1,d2,ob0,by simp only;rw[G9,if_neg hi];exact d3,d4⟩
 ·intro c hc
  have hcb:c ≠ b:=fun e=>by subst e;exact wr2 hc
  rw[G6 _ _ _ hcb]
  exact h.lt c hc
 ·intro c hc
  have hcb:c ≠ b:=fun e=>by subst e;exact wr2 hc
  rw[G6 _ _ _ hcb]
  exact h.cl c hc
 ·intro c hc
  obtain ⟨u1,u2⟩:=h.un c hc
  have hcb:c ≠ b:=fun e=>by subst e;exact wr3 hc
  exact ⟨u1,by simp only;rw[G6 _ _ _ hcb];exact u2⟩
 ·intro i obj e
  obtain ⟨hi,e1⟩:=hown i obj e
  exact h.own i obj e1
 ·intro c blk0 e
  obtain ⟨c',e'⟩:=bV _ _ _ _ e
  exact h.hb c c' e'
 ·split at e
  ·cases e
  ·exact h.pb i c e hi
end
section
variable {C:C5} {st st':l8} {s:St} {μ:Nat→Option Nat} {F:Nat→Prop} {fr:D7} {frI:Fr} {v:V}
theorem pL {α:Type}:∀ {l:List α} {k:Nat} {cs r:List α},D8 l k cs=some r→r.length=l.length
 |l,k,[],r,h=>by
  have:r=l:=by cases l<;>cases k<;>simp[D8] at h<;>first|exact h|exact h.symm
  rw[this]
 | [],k,c::cs,r,h=>by cases k<;>simp[D8] at h
 |x::l,0,c::cs,r,h=>by
  simp only[D8,Option.map_eq_some_iff] at h
  obtain ⟨r',h1,rfl⟩:=h
  simp[pL h1]
 |x::l,k+1,c::cs,r,h=>by
  simp only[D8,Option.map_eq_some_iff] at h
  obtain ⟨r',h1,rfl⟩:=h
  simp[pL h1]
theorem dT {α:Type}:∀ {l:List α} {k:Nat} {cs r:List α} {ls vs:List Value},D8 l k cs=some r→ls.length=l.length→vs.length=cs.length→∃ rs,P7 ls k vs=some rs
 |l,k,[],r,ls,vs,h,h1,h2=>by
  have:=List.eq_nil_of_length_eq_zero h2
  subst this
  exact ⟨ls,by cases ls<;>cases k<;>rfl⟩
 | [],k,c::cs,r,ls,vs,h,h1,h2=>by cases k<;>simp[D8] at h
 |x::l,k,c::cs,r,[],vs,h,h1,h2=>by simp at h1
 |x::l,k,c::cs,r,y::ls,[],h,h1,h2=>by simp at h2
 |x::l,0,c::cs,r,y::ls,z::vs,h,h1,h2=>by
  simp only[D8,Option.map_eq_some_iff] at h
  obtain ⟨r',hr',rfl⟩:=h
  obtain ⟨rs,g1⟩:=dT hr' (by simpa using h1) (by simpa using h2)
  exact ⟨z::rs,by simp[P7,g1]⟩
 |x::l,k+1,c::cs,r,y::ls,z::vs,h,h1,h2=>by
  simp only[D8,Option.map_eq_some_iff] at h
  obtain ⟨r',hr',rfl⟩:=h
  obtain ⟨rs,g1⟩:=dT (cs:=c::cs) (vs:=z::vs) hr' (by simpa using h1) (by simpa using h2)
  exact ⟨y::rs,by simp[P7,g1]⟩
theorem VW.le.refl (w:VW):VW.le w w:=⟨fun _ _=>rfl,fun _ h=>h,Nat.le_refl _,fun _ _ _ h=>h⟩
theorem VW.le.trans {a b c:VW} (h:VW.le a b) (k:VW.le b c):VW.le a c:=
 ⟨fun x i=>(k.ld x (h.inF i)).trans (h.ld x i),fun x i=>k.F x (h.F x i),Nat.le_trans h.nx k.nx,fun o x ho e=>h.μ o x ho (k.μ o x (Nat.lt_of_lt_of_le ho h.nx) e)⟩
def SZ (C:C5) (st:l8) (s:St) (μ:Nat→Option Nat) (F:Nat→Prop) (r:Option (Value × St)) (v:V) (st':l8):Prop:=
 ∃ vI s' μ' F',r=some (vI,s')∧SR C st' s' μ' F'∧b7 (u5 C st' s' μ' F') v vI∧VW.le (u5 C st s μ F) (u5 C st' s' μ' F')∧s'.prot=s.prot∧s.next≤s'.next∧∀ b,F' b→F b∨s.prot≤b
theorem O4 {b k:Nat} {blk:u6} {vs cs:List Value} (hb:d9 s.heap b=some blk) (hp:s.prot≤b) (h1:vs.all A1=true) (hl:P7 blk.cells k vs=some cs):
  S2 s ⟨b,k,some 0⟩ vs=some {s with heap:=M4 s.heap b {blk with cells:=cs}}:=by
 simp only[S2,hb,Option.bind_some]
 rw[if_pos (by rw[Nat.ble_eq];exact hp),if_pos h1,hl]
 rfl
theorem zT {E:E2} {op:K3} {r:Option (Value × St)} (h1:a8 E frI s op=none) (h2:o8 E frI s op=r):step E frI s op=r:=by
 simp only[step,h1,h2]
theorem SW {i j:Nat}:Nat.beq i j=false↔i ≠ j:=by rw[← Bool.not_eq_true,i6]
theorem LG {i j:Nat}:(!Nat.ble i j)=false↔i≤j:=by
 rw[Bool.not_eq_false',Nat.ble_eq]
def bX0 (s:St) (n:Nat) (aI uI:Value):Option (Value × St):=
 match aI with
 | .pointer (some a)=>if Nat.beq uI.cells.toList.length n then (S2 s a uI.cells.toList).map (.tuple #[],·) else none
 |_=>none
def XA (E:E2) (s:St) (e:Nat) (dI xI:Value):Option (Value × St):=
 match dI with
 | .slice a n _=>(lenA xI).bind fun m=>(n7 E s.heap e (Nat.min m n) xI).bind fun cs=>
   match a with
   |some a=>(S2 s a cs).map (.int .i64 (Nat.min m n),·)
   |none=>some (.int .i64 (Nat.min m n),s)
 |_=>none
theorem aK1 (h:SR C st s μ F) {n:Nat} {a u:V} {aI uI:Value} (ha:b7 (u5 C st s μ F) a aI) (hu:b7 (u5 C st s μ F) u uI) (hs:KI st n a u=some st'):
  SZ C st s μ F (bX0 s n aI uI) (.tup []) st':=by
 simp only[KI,Option.bind_eq_some_iff] at hs
 obtain ⟨cs,hc,hs⟩:=hs
 split at hs
 case isFalse=>cases hs
 rename_i hn
 obtain ⟨c1,c2⟩:=gA hu hc
 have hone:=c1.one c2
 split at hs
 case h_2=>cases hs
 rename_i o k
 split at hs
 ·cases hs
 rename_i hro
 simp only[Bool.not_eq_true,LG] at hro
 simp only[b7] at ha
 obtain ⟨_,b',rfl,q⟩:=ha
 have htup:∀ w:VW,b7 w (.tup []) (.tuple #[]):=fun w=>by simp only[b7,d8];exact ⟨[],rfl,rfl⟩
 have fin:∀ {ob:Obj} {b:Nat} {blk:u6} {fz:List Nat} {ob':Obj} {cs':List Value},f8 st.own o=some ob→ob.fz=false→μ o=some b→d9 s.heap b=some blk→E1 st.ro st.own fz=true→o ∉ fz→ob'.none=false→ob'.fz=false→ob'.ok=true→
   P7 blk.cells k uI.cells.toList=some cs'→(∀ w',VW.le (u5 C st s μ F) w'→Fin (u5 C st s μ F) w' fz→LdX s.heap (u5 C st s μ F) w' fz→qG w' ob' {blk with cells:=cs'})→st'=⟨A3 (C0 fz st.own) o ob',st.next,st.ro⟩→
   SZ C st s μ F (if Nat.beq uI.cells.toList.length n then (S2 s ⟨b',k,some 0⟩ uI.cells.toList).map (.tuple #[],·) else none) (.tup []) st':=by
  intro ob b blk fz ob' cs' e1 e2 e3 e4 e5 e6 e7 e8 e9 e10 e11 e12
  have:=q b e3
  subst this
  obtain ⟨g1,g2,g3⟩:=h.upd e1 e2 hro e3 e4 e5 e6 e7 e8 e9 e11
  subst e12
  refine ⟨.tuple #[],_,μ,aQ μ F fz,?_,g1,htup _,g2,rfl,Nat.le_refl _,fun c hcf=>h.fin_ge e5 hcf⟩
  rw[c1.length,if_pos hn,O4 e4 g3 hone e10]
  rfl
 split at hs
 ·rename_i t e0 l ho
  simp only[Option.map_eq_some_iff] at hs
  obtain ⟨l',hl,rfl⟩:=hs
  obtain ⟨b,blk,m1,m2,m3⟩:=h.obj o _ ho rfl
  obtain ⟨rs,r1,r2⟩:=kV hl m3.2.2.2 c1
  exact fin (fz:= []) (ob':= .box t e0 l') ho rfl m1 m2 rfl (by simp) rfl rfl rfl r1 (fun w' k1 k2 k3=>⟨m3.1,m3.2.1,m3.2.2.1,r2.mono k1⟩) (by rw[z6])
 ·rename_i t e g z l ho
  split at hs
  ·cases hs
  rename_i hcond
  simp only[Bool.or_eq_true,Bool.not_eq_true',not_or,Bool.not_eq_true,Bool.not_eq_false] at hcond
  obtain ⟨⟨hz,hof⟩,hrow⟩:=hcond
  simp only[Option.bind_eq_some_iff,Option.map_eq_some_iff] at hs
  obtain ⟨ds,hd,l',hl,rfl⟩:=hs
  obtain ⟨b,blk,m1,m2,m3⟩:=h.obj o _ ho rfl
  have hds:∀ w',VW.le (u5 C st s μ F) w'→Fin (u5 C st s μ F) w' (lN cs)→LdX s.heap (u5 C st s μ F) w' (lN cs)→∃ rs,P7 blk.cells k uI.cells.toList=some rs∧j6 w' l' rs:=fun w' k1 k2 k3=>S0 hl (m3.2.2.2.mono k1) (uO h.hr k1 c1 hd k2 k3).1
  have hlen:∃ rs,P7 blk.cells k uI.cells.toList=some rs:=dT hl m3.2.2.2.length (by rw[c1.length,eF hd])
  obtain ⟨rs,hrs⟩:=hlen
  refine fin (fz:=lN cs) (ob':= .row t e g false l') ho hz m1 m2 hrow (fun hm=>by have:=(j7 _ _).2 hm;rw[hof] at this;cases this) rfl rfl ?_ hrs (fun w' k1 k2 k3=>?_) rfl
  ·exact L6 hl (h.own o _ ho).2 (AB hd)
  ·obtain ⟨rs',q1,q2⟩:=hds w' k1 k2 k3
   rw[hrs] at q1;cases q1
   exact ⟨m3.1,m3.2.1,m3.2.2.1,q2⟩
 ·rename_i t e z l ho
  split at hs
  ·cases hs
  rename_i hcond
  simp only[Bool.or_eq_true,Bool.not_eq_true',not_or,Bool.not_eq_true,Bool.not_eq_false] at hcond
  obtain ⟨⟨⟨hz,hof⟩,hce⟩,hrow⟩:=hcond
  simp only[Option.bind_eq_some_iff,Option.map_eq_some_iff] at hs
  obtain ⟨ds,hd,l',hl,rfl⟩:=hs
  have hl0:l ≠ []∧l'.length=l.length:=by
   refine ⟨fun e0=>?_,pL hl⟩
   subst e0
   cases ds with
   |nil=>have:=eF hd;cases cs with|nil=>cases hce|cons=>simp at this
   |cons=>cases k<;>simp[D8] at hl
  obtain ⟨b,blk,m1,m2,m3⟩:=h.obj o _ ho (by cases l with|nil=>exact absurd rfl hl0.1|cons=>rfl)
  have hds:∀ w',VW.le (u5 C st s μ F) w'→Fin (u5 C st s μ F) w' (lN cs)→LdX s.heap (u5 C st s μ F) w' (lN cs)→∃ rs,P7 blk.cells k uI.cells.toList=some rs∧j6 w' l' rs:=fun w' k1 k2 k3=>S0 hl (m3.2.2.2.mono k1) (uO h.hr k1 c1 hd k2 k3).1
  have hlen:∃ rs,P7 blk.cells k uI.cells.toList=some rs:=dT hl m3.2.2.2.length (by rw[c1.length,eF hd])
  obtain ⟨rs,hrs⟩:=hlen
  refine fin (fz:=lN cs) (ob':= .gro t e false l') ho hz m1 m2 hrow (fun hm=>by have:=(j7 _ _).2 hm;rw[hof] at this;cases this) ?_ rfl ?_ hrs (fun w' k1 k2 k3=>?_) rfl
  ·cases l' with
   |nil=>exact absurd (List.eq_nil_of_length_eq_zero hl0.2.symm) hl0.1
   |cons=>rfl
  ·exact L6 hl (h.own o _ ho).2 (AB hd)
  ·obtain ⟨rs',q1,q2⟩:=hds w' k1 k2 k3
   rw[hrs] at q1;cases q1
   exact ⟨m3.1,m3.2.1,m3.2.2.1,q2⟩
 ·cases hs
theorem rU {ro o:Nat} {H:E4}:∀ {fz:List Nat},E1 ro H fz=true→l7 o fz=false→E1 ro (H9 o H) fz=true
 | [],_,_=>rfl
 |i::r,h,hn=>by
  simp only[E1,Bool.and_eq_true] at h ⊢
  simp only[l7] at hn
  split at hn
  ·cases hn
  rename_i hi
  rw[i6] at hi
  refine ⟨⟨h.1.1,?_⟩,rU h.2 hn⟩
  rw[G9,if_neg (fun e=>hi e.symm)]
  exact h.1.2
theorem SR.grow (h:SR C st s μ F) {o b:Nat} {ob:Obj} {blk:u6} (ho:f8 st.own o=some ob) (hz:ob.fz=false) (hro:st.ro≤o) (hμ:μ o=some b) (hb:d9 s.heap b=some blk) {t:TypeId} {e m:Nat} {l:List D} {cs:List Value} {fz:List Nat}
  (hl:l ≠ []) (hok:T6 l=true) (hm:m ≠ 0) (hrow:E1 st.ro st.own fz=true) (hof:l7 o fz=false) (hr:∀ w',VW.le (u5 C st s μ F) w'→Fin (u5 C st s μ F) w' fz→LdX s.heap (u5 C st s μ F) w' fz→j6 w' l cs):
  SZ C st s μ F (some (.slice (some ⟨s.next,0,some 0⟩) m (v6+m),St.push {s with heap:=G5 s.heap b} [⟨cs,e,true,t⟩])) (.gr 2 st.next m) ⟨(st.next,.gro t e false l)::C0 fz (H9 o st.own),st.next+1,st.ro⟩∧s.prot≤b:=by
 obtain ⟨d1,d2,d3⟩:=h.del ho hz hro hμ
 have hP:hY (G5 s.heap b) (u5 C ⟨H9 o st.own,st.next,st.ro⟩ {s with heap:=G5 s.heap b} (fun i=>if i=o then none else μ i) F) s.next (.gr 2 st.next m) (some (.gro t e false l)) fz (.slice (some ⟨s.next,0,some 0⟩) m (v6+m)) [⟨cs,e,true,t⟩]:=
  ⟨by cases l with|nil=>exact absurd rfl hl|cons=>rfl,rfl,hok,_,rfl,fun w' k1 k2 k3 k4 k5=>⟨.gr_new k4 k5 m hm,rfl,rfl,rfl,hr w' (d2.trans k1) (fun i hi c e=>by
   refine k2 i hi c ?_
   have hio:i ≠ o:=fun e=>by subst e;have:=(j7 i fz).2 hi;rw[hof] at this;cases this
   simp only[if_neg hio];exact e) (fun i hi c e k sp bb hbb=>by
   have hio:i ≠ o:=fun e=>by subst e;have:=(j7 i fz).2 hi;rw[hof] at this;cases this
   have hcb:c ≠ b:=fun ec=>by subst ec;exact hio (h.inj i o c e hμ)
   exact k3 i hi c (by simp only[if_neg hio];exact e) k sp bb (by rw[G6 _ _ _ hcb];exact hbb))⟩⟩
 obtain ⟨p1,p2,p3,p4⟩:=d1.push hP (rU hrow hof)
 exact ⟨⟨_,_,_,_,rfl,p1,p2,d2.trans p3,rfl,by simp[St.push],p4⟩,d3⟩
theorem N5 {t:TypeId} {e:Nat} {z:Bool} {l:List D} (h:l ≠ []):(Obj.gro t e z l).none=false:=by
 cases l with
 |nil=>exact absurd rfl h
 |cons=>rfl
theorem SR.drop0 (h:SR C st s μ F) {o:Nat} {ob:Obj} (ho:f8 st.own o=some ob) (hn:ob.none=true):SR C ⟨H9 o st.own,st.next,st.ro⟩ s μ F:=by
 have hown:∀ i obj,f8 (H9 o st.own) i=some obj→i ≠ o∧f8 st.own i=some obj:=fun i obj e=>by
  rw[G9] at e
  split at e
  ·cases e
  ·rename_i hi;exact ⟨hi,e⟩
 refine ⟨fun i obj e hh=>h.obj i obj (hown i obj e).2 hh,fun i obj b e=>h.wr i obj b (hown i obj e).2,fun i obj b e=>h.fz i obj b (hown i obj e).2,h.inj,fun i b e=>?_,h.lt,h.cl,h.un,h.n0,fun i obj e=>h.own i obj (hown i obj e).2,h.hb,h.pr,h.pb⟩
 obtain ⟨d1,d2,ob',d3,d4⟩:=h.dom i b e
 refine ⟨d1,d2,ob',?_,d4⟩
 simp only
 rw[G9,if_neg]
 ·exact d3
 ·intro hi
  subst hi
  rw[ho] at d3
  cases d3
  rw[hn] at d4
  cases d4
theorem SR.rename (h:SR C st s μ F) {o:Nat} {ob:Obj} (ho:f8 st.own o=some ob) (hro:st.ro≤o):
  SR C ⟨(st.next,ob)::H9 o st.own,st.next+1,st.ro⟩ s (fun i=>if i=st.next then μ o else if i=o then none else μ i) F∧VW.le (u5 C st s μ F) (u5 C ⟨(st.next,ob)::H9 o st.own,st.next+1,st.ro⟩ s (fun i=>if i=st.next then μ o else if i=o then none else μ i) F):=by
 have hon:o<st.next:=(h.own o ob ho).1
 have hle:VW.le (u5 C st s μ F) (u5 C ⟨(st.next,ob)::H9 o st.own,st.next+1,st.ro⟩ s (fun i=>if i=st.next then μ o else if i=o then none else μ i) F):=by
  refine ⟨fun _ _=>rfl,fun _ h=>h,Nat.le_succ _,fun i b hi e=>?_⟩
  simp only at hi e
  rw[if_neg (by omega)] at e
  split at e
  ·cases e
  ·exact e
 have hown:∀ i obj,f8 ((st.next,ob)::H9 o st.own) i=some obj→(i=st.next∧obj=ob)∨(i ≠ st.next∧i ≠ o∧f8 st.own i=some obj):=fun i obj e=>by
  rw[k7] at e
  split at e
  ·rename_i hi;cases e;exact .inl ⟨hi,rfl⟩
  ·rename_i hi
   rw[G9] at e
   split at e
   ·cases e
   ·rename_i hi2;exact .inr ⟨hi,hi2,e⟩
 have hmu:∀ i b,(if i=st.next then μ o else if i=o then none else μ i)=some b→(i=st.next∧μ o=some b)∨(i ≠ st.next∧i ≠ o∧μ i=some b):=fun i b e=>by
  split at e
  ·rename_i hi;exact .inl ⟨hi,e⟩
  ·rename_i hi
   split at e
   ·cases e
   ·rename_i hi2;exact .inr ⟨hi,hi2,e⟩
 refine ⟨⟨?_,?_,?_,?_,?_,h.lt,h.cl,h.un,h.n0,?_,h.hb,h.pr,?_⟩,hle⟩
 ·intro i obj e hn
  rcases hown i obj e with ⟨rfl,rfl⟩|⟨h1,h2,e1⟩
  ·obtain ⟨b,blk,m1,m2,m3⟩:=h.obj o _ ho hn
   exact ⟨b,blk,by rw[if_pos rfl];exact m1,m2,m3.mono hle⟩
  ·obtain ⟨b,blk,m1,m2,m3⟩:=h.obj i obj e1 hn
   exact ⟨b,blk,by rw[if_neg h1,if_neg h2];exact m1,m2,m3.mono hle⟩
 ·intro i obj b e e2 hz
  rcases hown i obj e with ⟨rfl,rfl⟩|⟨h1,h2,e1⟩
  ·rcases hmu _ b e2 with ⟨_,e3⟩|⟨h3,_⟩
   ·obtain ⟨q1,q2⟩:=h.wr o _ b ho e3 hz
    exact ⟨q1,fun _=>q2 hro⟩
   ·exact absurd rfl h3
  ·rcases hmu i b e2 with ⟨h3,_⟩|⟨_,_,e3⟩
   ·exact absurd h3 h1
   ·exact h.wr i obj b e1 e3 hz
 ·intro i obj b e e2 hz
  rcases hown i obj e with ⟨rfl,rfl⟩|⟨h1,h2,e1⟩
  ·rcases hmu _ b e2 with ⟨_,e3⟩|⟨h3,_⟩
   ·exact h.fz o _ b ho e3 hz
   ·exact absurd rfl h3
  ·rcases hmu i b e2 with ⟨h3,_⟩|⟨_,_,e3⟩
   ·exact absurd h3 h1
   ·exact h.fz i obj b e1 e3 hz
 ·intro i j b e e'
  rcases hmu i b e with ⟨h1,e1⟩|⟨h1,h2,e1⟩<;>rcases hmu j b e' with ⟨h3,e3⟩|⟨h3,h4,e3⟩
  ·rw[h1,h3]
  ·exact absurd (h.inj o j b e1 e3).symm h4
  ·exact absurd (h.inj i o b e1 e3) h2
  ·exact h.inj i j b e1 e3
 ·intro i b e
  rcases hmu i b e with ⟨rfl,e1⟩|⟨h1,h2,e1⟩
  ·obtain ⟨d1,d2,ob',d3,d4⟩:=h.dom o b e1
   rw[ho] at d3
   cases d3
   exact ⟨d1,by simp,ob,by simp only;rw[k7,if_pos rfl],d4⟩
  ·obtain ⟨d1,d2,ob',d3,d4⟩:=h.dom i b e1
   exact ⟨d1,by simp only;omega,ob',by simp only;rw[k7,if_neg h1,G9,if_neg h2];exact d3,d4⟩
 ·intro i obj e
  rcases hown i obj e with ⟨rfl,rfl⟩|⟨h1,h2,e1⟩
  ·exact ⟨by simp,(h.own o _ ho).2⟩
  ·exact ⟨by have:=(h.own i obj e1).1;simp only;omega,(h.own i obj e1).2⟩
 ·intro i b e hr
  rcases hmu i b e with ⟨rfl,e1⟩|⟨h1,h2,e1⟩
  ·exact h.pb o b e1 hro
  ·exact h.pb i b e1 hr
theorem aI1 {H:E4} {e:Nat} {v:V} {r:List D × List Nat} (h:J8 H e 0 v=some r):r.2= []:=by
 unfold J8 at h
 split at h
 ·split at h
  ·cases h;rfl
  ·cases h
 ·split at h
  ·cases h;rfl
  ·cases h
 ·split at h
  ·split at h
   ·cases h;rfl
   ·cases h
  ·split at h
   ·cases h;rfl
   ·cases h
  ·split at h
   ·simp only[Option.map_eq_some_iff] at h
    obtain ⟨ds,_,rfl⟩:=h
    simp[lN]
   ·cases h
  ·cases h
 ·split at h
  ·split at h
   ·cases h;rfl
   ·cases h
  ·cases h
 ·split at h
  ·cases h;rfl
  ·cases h
 ·split at h
  ·cases h;rfl
  ·cases h
 ·cases h
def HM (E:E2) (s:St) (t:TypeId) (e b:Nat) (x y:Value):Option (Value × St):=
 match Z2 E s t e b x y with
 |some (v,bs)=>some (v,s.push bs)
 |none=>iC E s t e b x y
theorem kE {E:E2} {t:TypeId} {e b:Nat} {x y:Value} (h:Z2 E s t e b x y=none):HM E s t e b x y=iC E s t e b x y:=by simp only[HM,h]
theorem bA6 (h:SR C st s μ F) {t:TypeId} {e b:Nat} {x y:V} {xI yI:Value} (hx:b7 (u5 C st s μ F) x xI) (hy:b7 (u5 C st s μ F) y yI) (hs:uB st t e b x y=some (v,st')):
  SZ C st s μ F (HM C.E s t e b xI yI) v st':=by
 simp only[uB,Option.bind_eq_some_iff] at hs
 obtain ⟨m,hm,hs⟩:=hs
 obtain ⟨new,hnew,hs⟩:=hs
 split at hs
 case isFalse=>cases hs
 rename_i hok
 simp only[Bool.and_eq_true,Bool.not_eq_true',SW] at hok
 obtain ⟨⟨hok,he0⟩,hrow⟩:=hok
 have hlen:=oV hy hm
 have hml:∀ k,Q7 y=some k→m≤k:=fun k hk=>by rw[hm] at hk;cases hk;exact Nat.le_refl _
 obtain ⟨cs,c1,c0,hone,c2⟩:=V1 h.hr hy hnew hml
 have hnl:=QV hnew hml
 have hnn:m ≠ 0→new.1 ≠ []:=fun hm0 e0=>by
  rw[e0] at hnl
  have:=Nat.mul_pos (Nat.pos_of_ne_zero hm0) (Nat.pos_of_ne_zero he0)
  simp at hnl;omega
 split at hs
 ·rename_i s' o n
  split at hs
  case h_2=>cases hs
  rename_i t' e' z l ho
  split at hs
  case isFalse=>cases hs
  rename_i hc
  simp only[Bool.and_eq_true,Bool.or_eq_true,Bool.not_eq_true',SW,Nat.ble_eq] at hc
  obtain ⟨⟨⟨⟨⟨⟨⟨⟨hro,hz⟩,hsn⟩,ht⟩,he⟩,hl⟩,hr1⟩,hr2⟩,hof⟩:=hc
  have ht:=i6.1 ht
  have he:=i6.1 he
  have hl:=i6.1 hl
  subst ht he hz
  have hsn:s'=2∨n ≠ 0:=hsn.imp i6.1 id
  cases hs
  have hokl:T6 (l++new.1)=true:=by
   have:=(h.own o _ ho).2
   simp only[Obj.ok] at this
   simp only[T6,List.all_append,Bool.and_eq_true];exact ⟨this,hok⟩
  by_cases hm0:m=0
  ·subst hm0
   have hn0:new.1= []:=List.eq_nil_of_length_eq_zero (by rw[hnl];simp)
   have hcs0:cs= []:=List.eq_nil_of_length_eq_zero (by rw[c0,hn0];rfl)
   have hf0:new.2= []:=aI1 hnew
   rw[hn0,List.append_nil,Nat.add_zero,hf0,z6]
   obtain ⟨q1,q2⟩:=h.rename ho hro
   have hx2:b7 (u5 C ⟨(st.next,.gro t' e' false l)::H9 o st.own,st.next+1,st.ro⟩ s (fun i=>if i=st.next then μ o else if i=o then none else μ i) F) (.gr 2 st.next n) xI:=by
    simp only[b7] at hx ⊢
    refine ⟨Nat.lt_succ_self _,?_⟩
    rcases hx with ⟨_,⟨hn,rfl|⟨hs2,_⟩⟩|⟨hn,b',rfl,q⟩⟩
    ·exact .inl ⟨hn,.inl rfl⟩
    ·exact absurd hs2 (by rcases hsn with h|h;exact fun h2=>h2 h;exact absurd hn h)
    ·exact .inr ⟨hn,b',rfl,fun b hb=>q b (by simpa using hb)⟩
   have hap:HM C.E s t' e' b xI yI=some (xI,s):=by
    have hc:∃ a c,xI= .slice a n c∧n≤w5 c:=by
     simp only[b7] at hx
     rcases hx with ⟨_,⟨rfl,rfl|⟨_,a,c,rfl,_⟩⟩|⟨hn,b',rfl,_⟩⟩
     ·exact ⟨_,_,rfl,Nat.zero_le _⟩
     ·exact ⟨_,_,rfl,Nat.zero_le _⟩
     ·exact ⟨_,_,rfl,by rw[I6 (by omega)];omega⟩
    obtain ⟨a,c,rfl,hc⟩:=hc
    simp only[HM,Z2,hlen,Option.bind_some]
    rw[if_pos (show Nat.beq 0 0=true from rfl),if_pos (by rw[Nat.ble_eq];exact hc)]
    rfl
   rw[hap]
   exact ⟨xI,s,_,F,rfl,q1,hx2,q2,rfl,Nat.le_refl _,fun b hb=> .inl hb⟩
  have h0:¬ Nat.beq m 0=true:=by rw[i6];exact hm0
  simp only[b7] at hx
  rcases hx with ⟨_,⟨hn,hx⟩|⟨hn0,b',rfl,q⟩⟩
  ·have hxn:xI= .slice none 0 0:=by
    rcases hx with hx|⟨hs2,_⟩
    ·exact hx
    ·exact absurd hs2 (by rcases hsn with h|h;exact fun h2=>h2 h;exact absurd hn h)
   subst hxn hn
   have hl0:l= []:=List.eq_nil_of_length_eq_zero (by rw[hl];simp)
   subst hl0
   have d1:=h.drop0 ho rfl
   have hP:hY s.heap (u5 C ⟨H9 o st.own,st.next,st.ro⟩ s μ F) s.next (.gr 2 st.next m) (some (.gro t' e' false new.1)) new.2 (.slice (some ⟨s.next,0,some 0⟩) m (v6+m)) [⟨cs,e',true,t'⟩]:=
    ⟨N5 (hnn hm0),rfl,hok,_,rfl,fun w' k1 k2 k3 k4 k5=>⟨.gr_new k4 k5 m hm0,rfl,rfl,rfl,c2 w' k1 k2 k3⟩⟩
   obtain ⟨p1,p2,p3,p4⟩:=d1.push hP (rU hrow hof)
   have hap:HM C.E s t' e' b (.slice none 0 0) yI=some (.slice (some ⟨s.next,0,some 0⟩) m (v6+m),s.push [⟨cs,e',true,t'⟩]):=by
    have:Z2 C.E s t' e' b (.slice none 0 0) yI=some (.slice (some ⟨s.next,0,some 0⟩) m (v6+m),[⟨cs,e',true,t'⟩]):=by
     simp only[Z2,hlen,Option.bind_some,Nat.zero_add]
     rw[Nat.zero_add] at hr1 hr2
     rw[if_neg h0,if_pos (by simp only[Bool.and_eq_true,Nat.ble_eq,Nat.blt_eq];exact ⟨⟨⟨hr1,hr2⟩,by unfold v6;omega⟩,by omega⟩),c1]
     simp only[Option.bind_some,n7]
     rfl
    simp only[HM,this]
   rw[hap,List.nil_append,Nat.zero_add]
   exact ⟨_,_,_,_,rfl,p1,p2,p3,rfl,by simp[St.push],p4⟩
  have hln:l ≠ []:=fun e0=>by
   rw[e0] at hl
   have:=Nat.mul_pos (Nat.pos_of_ne_zero hn0) (Nat.pos_of_ne_zero he0)
   simp at hl;omega
  obtain ⟨b0,blk,m1,m2,m3⟩:=h.obj o _ ho (N5 hln)
  have:=q b0 m1
  subst this
  have hcl:=m3.2.2.2.length
  obtain ⟨g1,g2⟩:=h.grow (t:=t') (e:=e') (m:=n+m) (l:=l++new.1) (fz:=new.2) (cs:=blk.cells++cs) ho rfl hro m1 m2 (by simp[hln]) hokl (by omega) hrow hof (fun w' k1 k2 k3=>(m3.2.2.2.mono k1).append (c2 w' k1 k2 k3))
  have hnb:Nat.blt (v6+n) v6=false:=by rw[← Bool.not_eq_true,Nat.blt_eq];omega
  rw[kE (by
   simp only[Z2,hlen,Option.bind_some]
   rw[if_neg h0,if_neg (by simp[hnb])])]
  ·have:iC C.E s t' e' b (.slice (some ⟨b',0,some 0⟩) n (v6+n)) yI=some (.slice (some ⟨s.next,0,some 0⟩) (n+m) (v6+(n+m)),St.push {s with heap:=G5 s.heap b'} [⟨blk.cells++cs,e',true,t'⟩]):=by
    simp only[iC,hlen,Option.bind_some]
    rw[if_neg h0,if_pos (by simp only[Bool.and_eq_true,Nat.ble_eq];exact ⟨hr1,hr2⟩),c1]
    simp only[Option.bind_some]
    rw[if_pos hone,if_neg (by rw[hnb];simp),if_pos (by rw[Nat.ble_eq];exact g2),m2]
    simp only[Option.bind_some]
    rw[if_pos (by simp only[Bool.and_eq_true];rw[m3.1,m3.2.1,m3.2.2.1,hcl,hl];refine ⟨⟨⟨⟨rfl,i6.2 rfl⟩,i6.2 rfl⟩,i6.2 (by omega)⟩,i6.2 rfl⟩)]
    rfl
   rw[this];exact g1
 ·rename_i o k n c
  split at hs
  case h_2=>cases hs
  rename_i t' e' g z l ho
  split at hs
  ·cases hs
  rename_i hcond
  simp only[Bool.or_eq_true,not_or,Bool.not_eq_true,LG] at hcond
  obtain ⟨⟨⟨⟨hro,hz⟩,h0'⟩,hr1⟩,hr2⟩:=hcond
  subst hz
  have hm0:m ≠ 0:=SW.1 h0'
  have h0:¬ Nat.beq m 0=true:=by rw[i6];exact hm0
  replace hnn:=hnn hm0
  simp only[b7] at hx
  obtain ⟨_,hcap,b',rfl,q⟩:=hx
  obtain ⟨b0,blk,m1,m2,m3⟩:=h.obj o _ ho rfl
  have:=q b0 m1
  subst this
  have hcl:=m3.2.2.2.length
  split at hs
  ·rename_i hcb
   split at hs
   case isFalse=>cases hs
   rename_i hle
   simp only[Bool.and_eq_true,Bool.not_eq_true'] at hle
   obtain ⟨hle,hof⟩:=hle
   simp only[Option.map_eq_some_iff] at hs
   obtain ⟨l',hl',hs⟩:=hs
   cases hs
   obtain ⟨rs,r1⟩:=dT hl' hcl c0
   have r2:∀ w',VW.le (u5 C st s μ F) w'→Fin (u5 C st s μ F) w' new.2→LdX s.heap (u5 C st s μ F) w' new.2→j6 w' l' rs:=fun w' k1 k2 k3=>by
    obtain ⟨rs',q1,q2⟩:=S0 hl' (m3.2.2.2.mono k1) (c2 w' k1 k2 k3)
    rw[r1] at q1;cases q1;exact q2
   obtain ⟨g1,g2,g3⟩:=h.upd (fz:=new.2) (ob':= .row t' e' g false l') (blk':={blk with cells:=rs}) ho rfl hro m1 m2 hrow (fun hm=>by have:=(j7 _ _).2 hm;rw[hof] at this;cases this) rfl rfl (L6 hl' (h.own o _ ho).2 hok) (fun w' k1 k2 k3=>⟨m3.1,m3.2.1,m3.2.2.1,r2 w' k1 k2 k3⟩)
   rw[Nat.ble_eq] at hle
   rw[kE (by
    simp only[Z2,hlen,Option.bind_some]
    rw[if_neg h0,if_neg (by
     have:Nat.blt c (n+m)=false:=by rw[← Bool.not_eq_true,Nat.blt_eq];omega
     simp[this])])]
   ·have:iC C.E s t e b (.slice (some ⟨b',k,some 0⟩) n c) yI=some (.slice (some ⟨b',k,some 0⟩) (n+m) c,{s with heap:=M4 s.heap b' {blk with cells:=rs}}):=by
     simp only[iC,hlen,Option.bind_some]
     rw[if_neg h0,if_pos (by simp only[Bool.and_eq_true,Nat.ble_eq];exact ⟨hr1,hr2⟩),c1]
     simp only[Option.bind_some]
     rw[if_pos hone,if_pos hcb,if_pos (by rw[Nat.ble_eq];exact hle)]
     have hast:=O4 (s:=s) m2 g3 hone r1
     simp only[y4]
     rw[hast]
     rfl
    rw[this]
    refine ⟨_,_,μ,_,rfl,g1,?_,g2,rfl,Nat.le_refl _,fun c hc=>h.fin_ge hrow hc⟩
    simp only[b7]
    rw[Nat.blt_eq] at hcb
    exact ⟨‹_›,by unfold F4;rw[E0 hcb];exact hle,b',rfl,q⟩
  ·rename_i hcb
   split at hs
   case isFalse=>
    split at hs
    case isFalse=>cases hs
    rename_i hle
    simp only[Bool.and_eq_true,Bool.not_eq_true'] at hle
    obtain ⟨⟨hle,hof⟩,hng⟩:=hle
    simp only[Option.map_eq_some_iff] at hs
    obtain ⟨l',hl',hs⟩:=hs
    cases hs
    obtain ⟨rs,r1⟩:=dT hl' hcl c0
    have r2:∀ w',VW.le (u5 C st s μ F) w'→Fin (u5 C st s μ F) w' new.2→LdX s.heap (u5 C st s μ F) w' new.2→j6 w' l' rs:=fun w' k1 k2 k3=>by
     obtain ⟨rs',q1,q2⟩:=S0 hl' (m3.2.2.2.mono k1) (c2 w' k1 k2 k3)
     rw[r1] at q1;cases q1;exact q2
    obtain ⟨g1,g2,g3⟩:=h.upd (fz:=new.2) (ob':= .row t' e' g false l') (blk':={blk with cells:=rs}) ho rfl hro m1 m2 hrow (fun hm=>by have:=(j7 _ _).2 hm;rw[hof] at this;cases this) rfl rfl (L6 hl' (h.own o _ ho).2 hok) (fun w' k1 k2 k3=>⟨m3.1,m3.2.1,m3.2.2.1,r2 w' k1 k2 k3⟩)
    rw[Nat.ble_eq] at hle
    have hcb':Nat.blt c v6=false:=by simp only[Bool.not_eq_true] at hcb;exact hcb
    rw[kE (by
     simp only[Z2,hlen,Option.bind_some]
     rw[if_neg h0,if_neg (by simp[hcb'])])]
    ·have:iC C.E s t e b (.slice (some ⟨b',k,some 0⟩) n c) yI=some (.slice (some ⟨b',k,some 0⟩) (n+m) c,{s with heap:=M4 s.heap b' {blk with cells:=rs}}):=by
      simp only[iC,hlen,Option.bind_some]
      rw[if_neg h0,if_pos (by simp only[Bool.and_eq_true,Nat.ble_eq];exact ⟨hr1,hr2⟩),c1]
      simp only[Option.bind_some]
      rw[if_pos hone,if_neg hcb,if_pos (by rw[Nat.ble_eq];exact g3),m2]
      simp only[Option.bind_some]
      rw[if_neg (by
       rw[m3.1,m3.2.1,m3.2.2.1,hcl,hng]
       exact Bool.false_ne_true),if_pos (by rw[Nat.ble_eq];exact hle)]
      have hast:=O4 (s:=s) m2 g3 hone r1
      simp only[y4]
      rw[hast]
      rfl
     rw[this]
     refine ⟨_,_,μ,_,rfl,g1,?_,g2,rfl,Nat.le_refl _,fun c hc=>h.fin_ge hrow hc⟩
     simp only[b7]
     rw[Nat.blt_eq] at hcb
     exact ⟨‹_›,by unfold F4;rw[I6 (by omega)];exact hle,b',rfl,q⟩
   rename_i hc
   simp only[Bool.and_eq_true,Bool.not_eq_true'] at hc
   obtain ⟨⟨⟨⟨⟨hg,ht⟩,he⟩,hk⟩,hc⟩,hof⟩:=hc
   have ht:=i6.1 ht
   have he:=i6.1 he
   have hk:=i6.1 hk
   have hc:=i6.1 hc
   subst ht he hg hc
   cases hs
   obtain ⟨g1,g2⟩:=h.grow (t:=t') (e:=e') (m:=n+m) (l:=l.drop k++new.1) (fz:=new.2) (cs:=blk.cells.drop k++cs) ho rfl hro m1 m2 (by simp[hnn]) (by
    have:=(h.own o _ ho).2
    simp only[Obj.ok,T6,List.all_eq_true] at this
    simp only[T6,List.all_append,Bool.and_eq_true,List.all_eq_true]
    exact ⟨fun d hd=>this d (List.mem_of_mem_drop hd),by simpa only[T6,List.all_eq_true] using hok⟩) (by omega) hrow hof (fun w' k1 k2 k3=>((m3.2.2.2.drop k).mono k1).append (c2 w' k1 k2 k3))
   rw[kE (by
    simp only[Z2,hlen,Option.bind_some]
    rw[if_neg h0,if_neg (by simp only[Bool.not_eq_true] at hcb;simp[hcb])])]
   ·have:iC C.E s t' e' b (.slice (some ⟨b',k,some 0⟩) n (v6+n)) yI=some (.slice (some ⟨s.next,0,some 0⟩) (n+m) (v6+(n+m)),St.push {s with heap:=G5 s.heap b'} [⟨blk.cells.drop k++cs,e',true,t'⟩]):=by
     simp only[iC,hlen,Option.bind_some]
     rw[if_neg h0,if_pos (by simp only[Bool.and_eq_true,Nat.ble_eq];exact ⟨hr1,hr2⟩),c1]
     simp only[Option.bind_some]
     rw[if_pos hone,if_neg hcb,if_pos (by rw[Nat.ble_eq];exact g2),m2]
     simp only[Option.bind_some]
     rw[if_pos (by simp only[Bool.and_eq_true];rw[m3.1,m3.2.1,m3.2.2.1,hcl];exact ⟨⟨⟨⟨rfl,i6.2 rfl⟩,i6.2 rfl⟩,i6.2 hk⟩,i6.2 rfl⟩)]
    rw[this];exact g1
 ·cases hs
theorem bA8 (h:SR C st s μ F) {e:Nat} {d x:V} {dI xI:Value} (hd:b7 (u5 C st s μ F) d dI) (hx:b7 (u5 C st s μ F) x xI) (hs:aA6 st e d x=some (v,st')):
  SZ C st s μ F (XA C.E s e dI xI) v st':=by
 simp only[aA6,Option.bind_eq_some_iff] at hs
 obtain ⟨n,hn,m,hm,cs,hcs,hs⟩:=hs
 split at hs
 case isFalse=>cases hs
 rename_i hok
 have hml:∀ k,Q7 x=some k→Nat.min m n≤k:=fun k hk=>by rw[hm] at hk;cases hk;exact Nat.min_le_left _ _
 simp only[Bool.and_eq_true,List.isEmpty_iff] at hok
 obtain ⟨us,u1,u2⟩:=(V1 h.hr hx hcs hml).plain h.hr hok.2
 replace hok:=hok.1
 have hlx:=oV hx hm
 have hone:=u2.one
 have hint:∀ w:VW,b7 w (.sc (.int .i64 ↑(Nat.min m n))) (.int .i64 ↑(Nat.min m n)):=fun w=> .mksc rfl
 split at hs
 ·rename_i o k n' c
  simp only[V9,Option.some.injEq] at hn
  subst hn
  split at hs
  case h_2=>cases hs
  rename_i t e' g z l ho
  split at hs
  ·cases hs
  rename_i hcond
  simp only[Bool.or_eq_true,not_or,Bool.not_eq_true,LG] at hcond
  obtain ⟨hro,hz⟩:=hcond
  subst hz
  simp only[Option.map_eq_some_iff] at hs
  obtain ⟨l',hl',hs⟩:=hs
  cases hs
  simp only[b7] at hd
  obtain ⟨_,hcap,b',rfl,q⟩:=hd
  obtain ⟨b0,blk,m1,m2,m3⟩:=h.obj o _ ho rfl
  have:=q b0 m1
  subst this
  obtain ⟨rs,r1,r2⟩:=S0 hl' m3.2.2.2 u2
  obtain ⟨g1,g2,g3⟩:=h.upd (fz:= []) (ob':= .row t e' g false l') (blk':={blk with cells:=rs}) ho rfl hro m1 m2 rfl (by simp) rfl rfl (L6 hl' (h.own o _ ho).2 hok) (fun w' k1 k2 k3=>⟨m3.1,m3.2.1,m3.2.2.1,r2.mono k1⟩)
  rw[z6] at g1 g2
  refine ⟨_,_,μ,_,?_,g1,hint _,g2,rfl,Nat.le_refl _,fun c hc=>h.fin_ge (fz:= []) rfl hc⟩
  simp only[XA,hlx,u1,Option.bind_some]
  rw[O4 m2 g3 hone r1]
  rfl
 ·rename_i s' o n'
  simp only[V9,Option.some.injEq] at hn
  subst hn
  split at hs
  case h_2=>cases hs
  rename_i t e' z l ho
  split at hs
  ·cases hs
  rename_i hcond
  simp only[Bool.or_eq_true,not_or,Bool.not_eq_true,SW,Bool.not_eq_false'] at hcond
  obtain ⟨⟨⟨⟨hro,hz⟩,hn0⟩,he0⟩,hll⟩:=hcond
  have hll:=i6.1 hll
  rw[Nat.ble_eq] at hro
  subst hz
  simp only[Option.map_eq_some_iff] at hs
  obtain ⟨l',hl',hs⟩:=hs
  cases hs
  simp only[b7] at hd
  rcases hd with ⟨_,⟨h00,_⟩|⟨_,b',rfl,q⟩⟩
  ·exact absurd h00 hn0
  have hl0:l ≠ []:=fun e0=>by
   rw[e0] at hll
   have:=Nat.mul_pos (Nat.pos_of_ne_zero hn0) (Nat.pos_of_ne_zero he0)
   simp at hll;omega
  obtain ⟨b0,blk,m1,m2,m3⟩:=h.obj o _ ho (N5 hl0)
  have:=q b0 m1
  subst this
  obtain ⟨rs,r1,r2⟩:=S0 hl' m3.2.2.2 u2
  have hl'0:l' ≠ []:=fun e0=>by have:=pL hl';rw[e0] at this;exact hl0 (List.eq_nil_of_length_eq_zero this.symm)
  obtain ⟨g1,g2,g3⟩:=h.upd (fz:= []) (ob':= .gro t e' false l') (blk':={blk with cells:=rs}) ho rfl hro m1 m2 rfl (by simp) (N5 hl'0) rfl (L6 hl' (h.own o _ ho).2 hok) (fun w' k1 k2 k3=>⟨m3.1,m3.2.1,m3.2.2.1,r2.mono k1⟩)
  rw[z6] at g1 g2
  refine ⟨_,_,μ,_,?_,g1,hint _,g2,rfl,Nat.le_refl _,fun c hc=>h.fin_ge (fz:= []) rfl hc⟩
  simp only[XA,hlx,u1,Option.bind_some]
  rw[O4 m2 g3 hone r1]
  rfl
 ·cases hs
  have hk:=hd.ok
  have:=hd.scv
  subst this
  simp only[B8,Bool.and_eq_true,i6] at hk
  obtain ⟨rfl,rfl⟩:=hk
  simp only[V9,Option.some.injEq] at hn
  subst hn
  refine ⟨_,s,μ,F,?_,h,hint _,VW.le.refl _,rfl,Nat.le_refl _,fun b hb=> .inl hb⟩
  simp only[XA,hlx,u1,Option.bind_some]
 ·cases hs
theorem SR.give (h:SR C st s μ F) {o b:Nat} {ob:Obj} (ho:f8 st.own o=some ob) (hz:ob.fz=false) (hro:st.ro≤o) (hμ:μ o=some b) (x:Value) (hx:B8 x=true):
  SZ C st s μ F (some (x,{s with heap:=G5 s.heap b})) (.sc x) ⟨H9 o st.own,st.next,st.ro⟩∧s.prot≤b:=by
 obtain ⟨d1,d2,d3⟩:=h.del ho hz hro hμ
 exact ⟨⟨x,_,_,F,rfl,d1,.mksc hx,d2,rfl,Nat.le_refl _,fun b hb=> .inl hb⟩,d3⟩
theorem bC5 (h:SR C st s μ F) {t:TypeId} {p n:V} {pI nI:Value} (hp:b7 (u5 C st s μ F) p pI) (hn:b7 (u5 C st s μ F) n nI) (hs:AZ st t p n=some (v,st')):
  SZ C st s μ F (AO s t pI nI) v st':=by
 unfold AZ at hs
 split at hs
 ·rename_i k
  split at hs
  case isFalse=>cases hs
  rename_i hk
  cases hs
  have:=hp.scv
  subst this
  have:=hn.scv
  subst this
  exact ⟨_,s,μ,F,by simp[AO,hk],h,.mksc rfl,VW.le.refl _,rfl,Nat.le_refl _,fun b hb=> .inl hb⟩
 ·rename_i o k m
  split at hs
  case isFalse=>cases hs
  rename_i hc
  obtain ⟨hm0,hm1,hro⟩:=hc
  rw[Nat.ble_eq] at hro
  have:=hn.scv
  subst this
  simp only[b7] at hp
  obtain ⟨_,b',rfl,q⟩:=hp
  have hne:¬ m=0:=by omega
  have fin:∀ {ob:Obj} {l:List D} {b:Nat} {blk:u6} {bs:List UInt8} {cs:List D},f8 st.own o=some ob→ob.fz=false→μ o=some b→d9 s.heap b=some blk→blk.ty=t→j6 (u5 C st s μ F) l blk.cells→B4 (l.drop k) m.toNat=some cs→A0 cs=some bs→
    v= .sc (.string ⟨bs.toArray⟩)→st'=⟨H9 o st.own,st.next,st.ro⟩→SZ C st s μ F (AO s t (.pointer (some ⟨b',k,some 0⟩)) (.int .i64 m)) v st':=by
   intro ob l b blk bs cs e1 e2 e3 e4 e5 e6 e7 e8 e9 e10
   have:=q b e3
   subst this e9 e10
   obtain ⟨g1,g2⟩:=h.give e1 e2 hro e3 (.string ⟨bs.toArray⟩) rfl
   obtain ⟨rfl,hlen⟩:=E6 _ _ e7
   rw[List.length_drop] at hlen
   have hcl:=e6.length
   have hb:=qR e8 (e6.part k m.toNat)
   have:AO s t (.pointer (some ⟨b',k,some 0⟩)) (.int .i64 m)=some (.string ⟨bs.toArray⟩,{s with heap:=G5 s.heap b'}):=by
    simp only[AO]
    rw[if_neg hne,if_pos ⟨hm0,hm1⟩,if_pos (by rw[Nat.ble_eq];exact g2),e4]
    simp only[Option.bind_some]
    rw[if_pos (by rw[e5];exact i6.2 rfl),U6 _ _ (by rw[List.length_drop];omega)]
    simp only[Option.bind_some,hb,Option.map_some]
   rw[this];exact g1
  split at hs
  ·rename_i t' e' z l ho
   split at hs
   case isFalse=>cases hs
   rename_i hc
   simp only[Bool.and_eq_true,Bool.not_eq_true'] at hc
   have ht:=i6.1 hc.1
   have hz:=hc.2
   subst ht hz
   simp only[Option.bind_eq_some_iff,Option.map_eq_some_iff] at hs
   obtain ⟨cs,h1,bs,h2,hs⟩:=hs
   cases hs
   have hl0:l ≠ []:=fun e0=>by
    obtain ⟨_,hlen⟩:=E6 _ _ h1
    rw[e0] at hlen;simp at hlen;omega
   obtain ⟨b0,blk,m1,m2,m3⟩:=h.obj o _ ho (N5 hl0)
   exact fin ho rfl m1 m2 m3.2.2.1 m3.2.2.2 h1 h2 rfl rfl
  ·rename_i t' e' g z l ho
   split at hs
   case isFalse=>cases hs
   rename_i hc
   simp only[Bool.and_eq_true,Bool.not_eq_true'] at hc
   have ht:=i6.1 hc.1
   have hz:=hc.2
   subst ht hz
   simp only[Option.bind_eq_some_iff,Option.map_eq_some_iff] at hs
   obtain ⟨cs,h1,bs,h2,hs⟩:=hs
   cases hs
   obtain ⟨b0,blk,m1,m2,m3⟩:=h.obj o _ ho rfl
   exact fin ho rfl m1 m2 m3.2.2.1 m3.2.2.2 h1 h2 rfl rfl
  ·cases hs
 ·cases hs
theorem CV {w:VW}:∀ {l:List D} {zs:List Int} {rs:List Value},OB l=some zs→j6 w l rs→tI rs=some zs
 | [],zs,rs,h,hr=>by
  simp only[j6] at hr
  subst hr
  simpa [OB,tI] using h
 |d::l,zs,rs,h,hr=>by
  unfold OB at h
  split at h
  ·rename_i heq;cases heq
  ·rename_i heq
   simp only[List.cons.injEq] at heq
   obtain ⟨rfl,rfl⟩:=heq
   simp only[Option.map_eq_some_iff] at h
   obtain ⟨zs',h1,rfl⟩:=h
   simp only[j6,u7] at hr
   obtain ⟨c,rs',rfl,⟨rfl,_⟩,h2⟩:=hr
   simp only[tI,CV h1 h2,Option.map_some]
  ·cases h
theorem DR {w:VW}:∀ (zs:List Int),j6 w (zs.map fun x=>D.sc (.int .i64 x)) (zs.map (Value.int .i64))
 | []=>by simp only[List.map_nil,j6]
 |z::r=>by
  simp only[List.map_cons,j6,u7]
  exact ⟨_,_,rfl,⟨rfl,rfl⟩,DR r⟩
theorem xM {α:Type}:∀ (l:List α),B4 l l.length=some l
 | []=>rfl
 |x::l=>by simp only[List.length_cons,B4,xM l,Option.map_some]
theorem bL1 (h:SR C st s μ F) {k0:Nat} {x:V} {xI:Value} (hx:b7 (u5 C st s μ F) x xI) (hs:bX4 st k0 x=some (v,st')):SZ C st s μ F (IY k0 s xI) v st':=by
 unfold bX4 at hs
 split at hs
 ·rename_i s' o n'
  have hx0:=hx
  simp only[b7] at hx
  split at hs
  ·rename_i h0
   have h0:=i6.1 h0
   subst h0
   cases hs
   have:∃ a c,xI= .slice a 0 c:=by
    rcases hx.2 with ⟨_,rfl|⟨_,a,c,rfl,_⟩⟩|⟨h,_⟩
    ·exact ⟨_,_,rfl⟩
    ·exact ⟨_,_,rfl⟩
    ·exact absurd rfl h
   obtain ⟨a,c,rfl⟩:=this
   refine ⟨xH k0 a [] c,s,μ,F,rfl,h,?_,VW.le.refl _,rfl,Nat.le_refl _,fun b hb=> .inl hb⟩
   cases k0 with
   |zero=>show b7 _ (.tup []) (.tuple #[]);simp only[b7,d8];exact ⟨[],rfl,rfl⟩
   |succ k0=>exact hx0
  rename_i hn0
  have hn0:n' ≠ 0:=fun e=>hn0 (i6.2 e)
  split at hs
  case h_2=>cases hs
  rename_i t e z l ho
  split at hs
  case isFalse=>cases hs
  rename_i hc
  simp only[Bool.and_eq_true,Bool.not_eq_true'] at hc
  obtain ⟨⟨⟨hro,hz⟩,hll⟩,hrm⟩:=hc
  have hll:=i6.1 hll
  rw[Nat.ble_eq] at hro
  subst hz
  simp only[Option.map_eq_some_iff] at hs
  obtain ⟨zs,hzs,hs⟩:=hs
  cases hs
  rcases hx with ⟨_,⟨h00,_⟩|⟨_,b',rfl,q⟩⟩
  ·exact absurd h00 hn0
  have hl0:l ≠ []:=fun e0=>by rw[e0] at hll;simp at hll;omega
  obtain ⟨b0,blk,m1,m2,m3⟩:=h.obj o _ ho (N5 hl0)
  have:=q b0 m1
  subst this
  have hi:=CV hzs m3.2.2.2
  have hcl:=m3.2.2.2.length
  have hzl:zs.length=l.length:=by
   have:=congrArg List.length (mY hi)
   simp only[List.length_map] at this
   omega
  have hsl:=OL k0 zs
  have hl'0:((iY k0 zs).map fun x=>D.sc (.int .i64 x)) ≠ []:=fun e0=>by
   have:=congrArg List.length e0
   simp only[List.length_map,List.length_nil] at this
   omega
  obtain ⟨g1,g2,g3⟩:=h.upd (fz:= []) (ob':= .gro t e false ((iY k0 zs).map fun x=>D.sc (.int .i64 x))) (blk':={blk with cells:=(iY k0 zs).map (Value.int .i64)}) ho rfl hro m1 m2 rfl (by simp) (N5 hl'0) rfl (by
   simp only[Obj.ok,T6,List.all_eq_true]
   intro d hd
   obtain ⟨x,_,rfl⟩:=List.mem_map.1 hd
   rfl) (fun w' k1 k2 k3=>⟨m3.1,m3.2.1,m3.2.2.1,DR _⟩)
  rw[z6] at g1 g2
  refine ⟨xH k0 (some ⟨b',0,some 0⟩) zs (v6+n'),_,μ,_,?_,g1,?_,g2,rfl,Nat.le_refl _,fun c hc=>h.fin_ge (fz:= []) rfl hc⟩
  rotate_left
  ·cases k0 with
   |zero=>show b7 _ (.tup []) (.tuple #[]);simp only[b7,d8];exact ⟨[],rfl,rfl⟩
   |succ k0=>
    have hcl:=XC zs
    simp only[bQ4,xH,b7]
    refine ⟨h.own o _ ho|>.1,?_,b',rfl,fun b hb=>q b hb⟩
    unfold F4
    rw[D9,if_neg (by omega)]
    omega
  simp only[IY,m2,Option.bind_some]
  rw[if_neg (fun e=>hn0 (i6.1 e)),List.drop_zero]
  have e1:B4 blk.cells n'=some blk.cells:=by
   have:=xM blk.cells
   rwa [show blk.cells.length=n' by omega] at this
  rw[e1]
  simp only[Option.bind_some,hi]
  rw[if_pos (by rw[Bool.and_eq_true];exact ⟨hrm,by rw[Nat.ble_eq];exact Nat.le_refl _⟩)]
  have hone:((iY k0 zs).map (Value.int .i64)).all A1=true:=by
   rw[List.all_eq_true]
   intro d hd
   obtain ⟨x,_,rfl⟩:=List.mem_map.1 hd
   rfl
  have hput:P7 blk.cells 0 ((iY k0 zs).map (Value.int .i64))=some ((iY k0 zs).map (Value.int .i64)):=by
   have:∀ (cs ls:List Value),ls.length=cs.length→P7 ls 0 cs=some cs:=fun cs=>by
    induction cs with
    |nil=>intro ls hl;have:=List.eq_nil_of_length_eq_zero hl;subst this;rfl
    |cons c cs ih=>
     intro ls hl
     cases ls with
     |nil=>simp at hl
     |cons x ls=>simp only[P7,ih ls (by simpa using hl),Option.map_some]
   exact this _ _ (by simp only[List.length_map];omega)
  rw[O4 m2 g3 hone hput]
  rfl
 ·split at hs
  case isFalse=>cases hs
  rename_i h0
  have h0:=i6.1 h0
  subst h0
  cases hs
  have:=hx.scv
  subst this
  refine ⟨xH k0 none [] _,s,μ,F,rfl,h,?_,VW.le.refl _,rfl,Nat.le_refl _,fun b hb=> .inl hb⟩
  cases k0 with
  |zero=>show b7 _ (.tup []) (.tuple #[]);simp only[b7,d8];exact ⟨[],rfl,rfl⟩
  |succ k0=>exact hx
 ·cases hs
theorem bB0 (h:SR C st s μ F) {x:V} {xI:Value} (hx:b7 (u5 C st s μ F) x xI) (hs:bA9 st x=some (v,st')):SZ C st s μ F (OQ s xI) v st':=by
 unfold bA9 at hs
 split at hs
 case h_2=>cases hs
 rename_i o k
 split at hs
 case isFalse=>cases hs
 rename_i hk
 have hk:=i6.1 hk
 subst hk
 split at hs
 case h_2=>cases hs
 rename_i t e g z l ho
 split at hs
 case isFalse=>cases hs
 rename_i hc
 simp only[Bool.and_eq_true,Bool.not_eq_true'] at hc
 obtain ⟨⟨⟨hro,hz⟩,he⟩,hg⟩:=hc
 have he:=i6.1 he
 rw[Nat.ble_eq] at hro
 subst hz he hg
 split at hs
 case isFalse=>cases hs
 rename_i hsz
 simp only[b7] at hx
 obtain ⟨_,b',rfl,q⟩:=hx
 obtain ⟨b0,blk,m1,m2,m3⟩:=h.obj o _ ho rfl
 have:=q b0 m1
 subst this
 obtain ⟨f1,f2,f3,_⟩:=m3
 split at hs
 ·rename_i hlt
  cases hs
  obtain ⟨g1,g2,g3⟩:=h.upd (fz:= []) (ob':= .row (rM (L4 t).1 ((L4 t).2+(Utf8.decode (L4 t).1 (L4 t).2).2)) 0 false false []) (blk':=lQ (L4 t).1 ((L4 t).2+(Utf8.decode (L4 t).1 (L4 t).2).2)) ho rfl hro m1 m2 rfl (by simp) rfl rfl rfl (fun w' k1 k2 k3=>⟨rfl,rfl,rfl,by simp only[j6,lQ]⟩)
  rw[z6] at g1 g2
  refine ⟨.tuple #[.bool true,.int .i64 (L4 t).2,.int .i32 (Utf8.decode (L4 t).1 (L4 t).2).1],_,μ,_,?_,g1,?_,g2,rfl,Nat.le_refl _,fun c hc=>h.fin_ge (fz:= []) rfl hc⟩
  ·simp only[OQ]
   rw[if_pos (by rw[Nat.ble_eq];exact g3),m2]
   simp only[Option.bind_some,f1,f2,f3]
   rw[if_pos (by rfl),if_pos hsz,if_pos hlt]
  ·simp only[b7,d8]
   exact ⟨_,rfl,_,_,rfl,⟨rfl,rfl⟩,_,_,rfl,⟨rfl,rfl⟩,_,_,rfl,⟨rfl,rfl⟩,rfl⟩
 ·rename_i hlt
  cases hs
  obtain ⟨_,_,g3⟩:=h.upd (fz:= []) (ob':= .row t 0 false false []) (blk':={blk with cells:= []}) ho rfl hro m1 m2 rfl (by simp) rfl rfl rfl (fun w' k1 k2 k3=>⟨f1,f2,f3,by simp only[j6]⟩)
  refine ⟨.tuple #[.bool false],s,μ,F,?_,h,?_,VW.le.refl _,rfl,Nat.le_refl _,fun b hb=> .inl hb⟩
  ·simp only[OQ]
   rw[if_pos (by rw[Nat.ble_eq];exact g3),m2]
   simp only[Option.bind_some,f1,f2,f3]
   rw[if_pos (by rfl),if_pos hsz,if_neg hlt]
  ·simp only[b7,d8]
   exact ⟨_,rfl,_,_,rfl,⟨rfl,rfl⟩,rfl⟩
theorem aK5 (h:SR C st s μ F) (hf:FR (u5 C st s μ F) fr frI) {op:K3} (hs:Q1 fr st op=some (v,st')):SZ C st s μ F (step C.E frI s op) v st':=by
 cases op with
 |store n a u=>
  simp only[Q1,Option.bind_eq_some_iff,Option.map_eq_some_iff] at hs
  obtain ⟨av,h1,uv,h2,st1,h3,hs⟩:=hs
  cases hs
  obtain ⟨aI,a1,a2⟩:=k9 hf h1
  obtain ⟨uI,b1,b2⟩:=k9 hf h2
  have:=aK1 h a2 b2 h3
  rw[zT (r:=_) rfl rfl]
  simp only[o8,a1,b1,Option.bind_some]
  exact this
 |app t e b x y=>
  simp only[Q1,Option.bind_eq_some_iff] at hs
  obtain ⟨av,h1,uv,h2,hs⟩:=hs
  obtain ⟨aI,a1,a2⟩:=k9 hf h1
  obtain ⟨uI,b1,b2⟩:=k9 hf h2
  have k:=bA6 h a2 b2 hs
  have:step C.E frI s (.app t e b x y)=HM C.E s t e b aI uI:=by
   simp only[step,a8,o8,a1,b1,Option.bind_some,HM]
   cases Z2 C.E s t e b aI uI<;>rfl
  rw[this]
  exact k
 |copy e d x=>
  simp only[Q1,Option.bind_eq_some_iff] at hs
  obtain ⟨av,h1,uv,h2,hs⟩:=hs
  obtain ⟨aI,a1,a2⟩:=k9 hf h1
  obtain ⟨uI,b1,b2⟩:=k9 hf h2
  have:=bA8 h a2 b2 hs
  rw[zT (r:=_) rfl rfl]
  simp only[o8,a1,b1,Option.bind_some]
  exact this
 |ustr t p n=>
  simp only[Q1,Option.bind_eq_some_iff] at hs
  obtain ⟨av,h1,uv,h2,hs⟩:=hs
  obtain ⟨aI,a1,a2⟩:=k9 hf h1
  obtain ⟨uI,b1,b2⟩:=k9 hf h2
  have:=bC5 h a2 b2 hs
  rw[zT (r:=_) rfl rfl]
  simp only[o8,a1,b1,Option.bind_some]
  exact this
 |lib k x=>
  simp only[Q1,Option.bind_eq_some_iff] at hs
  obtain ⟨av,h1,hs⟩:=hs
  obtain ⟨aI,a1,a2⟩:=k9 hf h1
  have:=bL1 h a2 hs
  rw[zT (r:=_) rfl rfl]
  simp only[o8,a1,Option.bind_some]
  exact this
 |nextS x=>
  simp only[Q1,Option.bind_eq_some_iff] at hs
  obtain ⟨av,h1,hs⟩:=hs
  obtain ⟨aI,a1,a2⟩:=k9 hf h1
  have:=bB0 h a2 hs
  rw[zT (r:=_) rfl rfl]
  simp only[o8,a1,Option.bind_some]
  exact this
 |_=>simp[Q1] at hs
theorem bC4 (h:SR C st s μ F) (hf:FR (u5 C st s μ F) fr frI) {op:K3} (hs:SF C.E.old fr st op=some (v,st')):SZ C st s μ F (step C.E frI s op) v st':=by
 unfold SF at hs
 split at hs
 ·rename_i v' ob fz hv
  split at hs
  case isFalse=>cases hs
  rename_i hrow
  cases hs
  obtain ⟨vI,bs,p1,p2⟩:=sF (n:=s.next) (p:=s.prot) h.hr hf hv
  obtain ⟨q1,q2,q3,q4⟩:=h.push p2 hrow
  refine ⟨vI,s.push bs,_,_,?_,q1,q2,q3,rfl,by simp[St.push],q4⟩
  have:step C.E frI s op=some (vI,s.push bs):=by simp only[step];rw[show a8 C.E frI s op=some (vI,bs) from p1]
  exact this
 ·exact aK5 h hf hs
end
def Rl (C:C5) (st:l8) (fr:D7) (s:St) (frI:Fr):Prop:=
 ∃ μ F,SR C st s μ F∧FR (u5 C st s μ F) fr frI∧VW.le C.w0 (u5 C st s μ F)∧s.prot=C.p0∧∀ b,F b→C.w0.F b∨C.p0≤b
abbrev A8:=Ex→D7→l8→Prop
def DV (C:C5) (run:Fr→St→aC4) (fr:D7) (st:l8) (P:A8):Prop:=
 ∀ frI s,Rl C st fr s frI→∃ ex frI' s',run frI s=some (ex,frI',s')∧∃ fr' st',Rl C st' fr' s' frI'∧P ex fr' st'
def callI (E:E2) (f:FuncId) (xs:List Value) (s:St):Option (Value × St):=
 match E.pcall f xs s with
 |some (v,bs)=>some (v,s.push bs)
 |none=>E.wcall f xs s
def W2 (C:C5) (f:FuncId) (xs:List V) (st:l8) (Q:V→l8→Prop):Prop:=
 ∃ v st',Q v st'∧∀ s μ F xsI,SR C st s μ F→d8 (u5 C st s μ F) xs xsI→s.prot=C.p0→SZ C st s μ F (callI C.E f xsI s) v st'
def aF:V→List V→Option (FuncId × List V)
 | .sc (.func (.func f) _ _),xs=>some (f,xs)
 | .fn f a b,xs=>some (f,a++xs++b)
 |_,_=>none
def fB (ms:List (TypeId × FuncId)):V→List V→Option (FuncId × List V)
 | .ifc t u,xs=>(P8 ms t).map fun f=>(f,u::xs)
 | .sc (.iface t u),xs=>(P8 ms t).map fun f=>(f,.sc u::xs)
 |_,_=>none
def bN0 (C:C5) (o:Nat) (xs:List V) (st:l8) (Q:V→l8→Prop):Prop:=
 ∀ s μ F xsI d,SR C st s μ F→d8 (u5 C st s μ F) xs xsI→VW.le C.w0 (u5 C st s μ F)→s.prot=C.p0→(∀ b,F b→C.w0.F b∨C.p0≤b)→b7 (u5 C st s μ F) (.tok o) (.chan (some d))→∃ v st',Q v st'∧SZ C st s μ F (C.E.yld d xsI s) v st'
def HT (C:C5) (g:V) (vs:List V) (st:l8) (Q:V→l8→Prop):Prop:=
 match g with
 | .tok o=>bN0 C o vs st Q
 |_=>False
def nT (C:C5) (fr:D7) (st:l8) (op:K3) (Q:V→l8→Prop):Prop:=
 match op with
 | .callF f xs=>match W1 fr xs with|some vs=>W2 C f vs st Q|none=>False
 | .callV x xs=>match o9 fr x,W1 fr xs with
   |some g,some vs=>(match aF g vs with|some (f,ws)=>W2 C f ws st Q|none=>HT C g vs st Q)
   |_,_=>False
 | .callI ms x xs=>match o9 fr x,W1 fr xs with
   |some g,some vs=>(match fB ms g vs with|some (f,ws)=>W2 C f ws st Q|none=>False)
   |_,_=>False
 |op=>match SF C.E.old fr st op with|some (v,st')=>Q v st'|none=>False
def wpO (C:C5):List i7→D7→l8→(D7→l8→Prop)→Prop
 | [],fr,st,Q=>Q fr st
 |o::l,fr,st,Q=>match o.guard with
   |none=>nT C fr st o.op fun v st'=>wpO C l (u9 fr o.dst v) st' Q
   |some (t,want)=>match f8 fr t with
     |some (.sc (.bool b))=>if b==want then nT C fr st o.op fun v st'=>wpO C l (u9 fr o.dst v) st' Q else wpO C l (u9 fr o.dst (.tup [])) st Q
     |some (.tup _)=>wpO C l (u9 fr o.dst (.tup [])) st Q
     |_=>False
def O0:E4→List (Nat × Bool)→List Bool→E4
 |H,[],_=>H
 |H,_::r,true::ms=>O0 H r ms
 |H,(o,c)::r,false::ms=>if c then H9 o (O0 H r ms) else O0 H r ms
 |H,_::r,[]=>O0 H r []
def C1 (E:E2) (s:St) (w0:VW):C5:=⟨E,s.next,s.heap,(· <s.next),w0,s.next⟩
def H0 (E:E2) (f:FuncId) (st:l8) (xs:List V) (v:V):Prop:=
 ∀ (s:St) (μ:Nat→Option Nat) (F:Nat→Prop) (xsI:List Value) (w0:VW),SR (C1 E s w0) ⟨st.own,st.next,st.next⟩ ⟨s.heap,s.next,s.next⟩ μ F→d8 (u5 (C1 E s w0) st s μ F) xs xsI→
  ∃ vI,E.pcall f xsI s=some (vI,[])∧∀ w,b7 w v vI
def HG (E:E2) (f:FuncId) (st:l8) (xs:List V) (v:V) (ob:Obj):Prop:=
 ob.none=false∧ob.fz=false∧ob.ok=true∧∀ (s:St) (μ:Nat→Option Nat) (F:Nat→Prop) (xsI:List Value) (w0:VW),SR (C1 E s w0) ⟨st.own,st.next,st.next⟩ ⟨s.heap,s.next,s.next⟩ μ F→d8 (u5 (C1 E s w0) st s μ F) xs xsI→
  ∃ vI blk,E.pcall f xsI s=some (vI,[blk])∧∀ w:VW,st.next<w.nx→w.μ st.next=some s.next→b7 w v vI∧qG w ob blk
def uT (C:C5) (f:FuncId) (xs:List V) (H:E4) (nx:Nat) (Q:V→Prop) (R:V→Obj→Prop):Prop:=(∃ v,H0 C.E f ⟨H,nx,nx⟩ xs v∧Q v)∨(∃ v ob,HG C.E f ⟨H,nx,nx⟩ xs v ob∧R v ob)
def KM (C:C5) (f:D7) (H:E4) (st:l8) (op:K3) (Q:V→Option Obj→Prop):Prop:=
 match op with
 | .callF g xs=>match W1 f xs with|some vs=>uT C g vs H st.next (fun v=>Q v none) (fun v ob=>Q v (some ob))|none=>False
 | .callV x xs=>match o9 f x,W1 f xs with
   |some g,some vs=>(match aF g vs with|some (g,ws)=>uT C g ws H st.next (fun v=>Q v none) (fun v ob=>Q v (some ob))|none=>False)
   |_,_=>False
 |op=>match f6 C.E.old f H st.next op with|some (v,ob,fz)=>if fz.isEmpty then Q v ob else False|none=>False
def wpP (C:C5):List i7→List (List Bool)→List (Nat × Bool)→D7→l8→(D7→l8→Prop)→Prop
 | [],_,_,fr,st,Q=>Q fr st
 |o::l,hid,vds,fr,st,Q=>match o.guard with
   |none=>KM C (C9 (p9 o) fr) (O0 st.own vds (hid.headD [])) st o.op fun v ob=>wpP C l hid.tail ((st.next,ob.isSome)::vds) (u9 fr o.dst v) (st.push ob []) Q
   |some (t,want)=>match f8 fr t with
     |some (.sc (.bool b))=>if b==want then KM C (C9 (p9 o) fr) (O0 st.own vds (hid.headD [])) st o.op fun v ob=>wpP C l hid.tail ((st.next,ob.isSome)::vds) (u9 fr o.dst v) (st.push ob []) Q
       else wpP C l hid.tail ((st.next,false)::vds) (u9 fr o.dst (.tup [])) st Q
     |some (.tup _)=>wpP C l hid.tail ((st.next,false)::vds) (u9 fr o.dst (.tup [])) st Q
     |_=>False
def KL (C:C5):AC→D7→l8→A8→Prop
 | .skip,fr,st,P=>P .normal fr st
 | .ops l ks,fr,st,P=>wpO C l fr st fun fr st=>P .normal (C9 ks fr) st
 | .draw pre tail hid ks,fr,st,P=>wpP C pre hid [] fr st fun fr st=>wpO C tail fr st fun fr st=>P .normal (C9 ks fr) st
 | .drawW pre tail ks,fr,st,P=>DV C (A4 C.E (.drawW pre tail ks)) fr st P
 | .seq a b,fr,st,P=>KL C a fr st fun ex fr st=>match ex with
   | .normal=>KL C b fr st P
   |ex=>P ex fr st
 | .cond c t e,fr,st,P=>match o9 fr c with
   |some (.sc (.bool b))=>if b then KL C t fr st P else KL C e fr st P
   |_=>False
 | .block id b,fr,st,P=>KL C b fr st fun ex fr st=>match ex with
   | .exit i=>if i=id then P .normal fr st else P (.exit i) fr st
   |ex=>P ex fr st
 | .loop ks b,fr,st,P=>DV C (A4 C.E (.loop ks b)) fr st P
 | .rangeF g ps ks a b,fr,st,P=>DV C (A4 C.E (.rangeF g ps ks a b)) fr st P
 | .exit id,fr,st,P=>P (.exit id) fr st
 | .ret,fr,st,P=>P .ret fr st
 | .bad,_,_,_=>False
section
variable {C:C5} {fr:D7} {st:l8} {P:A8}
theorem DV.mono {run:Fr→St→aC4} {Q:A8} (h:DV C run fr st P) (hq:∀ ex fr st,P ex fr st→Q ex fr st):DV C run fr st Q:=fun frI s hr=>by
 obtain ⟨ex,frI',s',e,fr',st',h1,h2⟩:=h frI s hr
 exact ⟨ex,frI',s',e,fr',st',h1,hq _ _ _ h2⟩
theorem Rl.stp {s:St} {frI:Fr} {μ:Nat→Option Nat} {F:Nat→Prop} (h1:SR C st s μ F) (h2:FR (u5 C st s μ F) fr frI) (h3:VW.le C.w0 (u5 C st s μ F)) (h4:s.prot=C.p0) (h5:∀ b,F b→C.w0.F b∨C.p0≤b) {r:Option (Value × St)} {v:V} {st':l8} (hs:SZ C st s μ F r v st'):
  ∃ vI s',r=some (vI,s')∧∀ d,Rl C st' (u9 fr d v) s' (H5 frI d vI):=by
 obtain ⟨vI,s',μ',F',e,q1,q2,q3,q4,q5,q6⟩:=hs
 refine ⟨vI,s',e,fun d=>⟨μ',F',q1,(h2.mono q3).put q2 d,h3.trans q3,q4.trans h4,fun b hb=>?_⟩⟩
 rcases q6 b hb with hb|hb
 ·exact h5 b hb
 ·exact .inr (by rw[← h4];exact hb)
theorem CJ {w:VW} {g:V} {vs ws:List V} {f:FuncId} {gI:Value} {vsI:List Value} (h:aF g vs=some (f,ws)) (hg:b7 w g gI) (hv:d8 w vs vsI):∃ wsI,Y2 gI vsI=some (f,wsI)∧d8 w ws wsI:=by
 cases g with
 |sc x=>
  have hx:=hg.ok
  have:=hg.scv
  subst this
  cases gI with
  |func fn a b=>
   cases fn with
   |func f'=>
    obtain ⟨a⟩:=a
    obtain ⟨b⟩:=b
    simp only[aF,Option.some.injEq,Prod.mk.injEq] at h
    obtain ⟨rfl,rfl⟩:=h
    simp only[B8,Bool.and_eq_true,List.isEmpty_iff] at hx
    obtain ⟨rfl,rfl⟩:=hx
    exact ⟨vsI,by simp[Y2],hv⟩
   |_=>simp[aF] at h
  |_=>simp[aF] at h
 |fn f' a b=>
  simp only[aF,Option.some.injEq,Prod.mk.injEq] at h
  obtain ⟨rfl,rfl⟩:=h
  simp only[b7] at hg
  obtain ⟨as,bs,rfl,ha,hb⟩:=hg
  refine ⟨as++vsI++bs,rfl,?_⟩
  have app:∀ {l m:List V} {ls ms:List Value},d8 w l ls→d8 w m ms→d8 w (l++m) (ls++ms):=by
   intro l
   induction l with
   |nil=>intro m ls ms h1 h2;simp only[d8] at h1;subst h1;exact h2
   |cons x l ih=>
    intro m ls ms h1 h2
    simp only[d8] at h1
    obtain ⟨v,vs',rfl,a1,a2⟩:=h1
    simp only[List.cons_append,d8]
    exact ⟨v,vs'++ms,rfl,a1,ih a2 h2⟩
  exact app (app ha hv) hb
 |_=>simp[aF] at h
theorem TS {w:VW} {ms:List (TypeId × FuncId)} {g:V} {vs ws:List V} {f:FuncId} {gI:Value} {vsI:List Value} (h:fB ms g vs=some (f,ws)) (hg:b7 w g gI) (hv:d8 w vs vsI):∃ wsI,fA ms gI vsI=some (f,wsI)∧d8 w ws wsI:=by
 unfold fB at h
 split at h
 ·simp only[Option.map_eq_some_iff,Prod.mk.injEq] at h
  obtain ⟨k,h1,rfl,rfl⟩:=h
  simp only[b7] at hg
  obtain ⟨v',rfl,hg⟩:=hg
  exact ⟨v'::vsI,by simp[fA,h1],by simp only[d8];exact ⟨_,_,rfl,hg,hv⟩⟩
 ·rename_i _ _ t u
  simp only[Option.map_eq_some_iff,Prod.mk.injEq] at h
  obtain ⟨k,h1,rfl,rfl⟩:=h
  have hx:=hg.ok
  have:=hg.scv
  subst this
  exact ⟨u::vsI,by simp[fA,h1],by simp only[d8];exact ⟨_,_,rfl,.mksc (by simpa only[B8] using hx),hv⟩⟩
 ·cases h
theorem GZ {op:K3} {Q:V→l8→Prop} (h:nT C fr st op Q) {s:St} {frI:Fr} (hr:Rl C st fr s frI):∃ vI s' v st',step C.E frI s op=some (vI,s')∧Q v st'∧∀ d,Rl C st' (u9 fr d v) s' (H5 frI d vI):=by
 obtain ⟨μ,F,h1,h2,h3,h4,h5⟩:=hr
 have call:∀ {f:FuncId} {ws:List V} {wsI:List Value},W2 C f ws st Q→d8 (u5 C st s μ F) ws wsI→step C.E frI s op=callI C.E f wsI s→∃ vI s' v st',step C.E frI s op=some (vI,s')∧Q v st'∧∀ d,Rl C st' (u9 fr d v) s' (H5 frI d vI):=by
  intro f ws wsI hc hw he
  obtain ⟨v,st',hq,hs⟩:=hc
  obtain ⟨vI,s',e,hl⟩:=Rl.stp h1 h2 h3 h4 h5 (hs s μ F wsI h1 hw h4)
  exact ⟨vI,s',v,st',by rw[he];exact e,hq,hl⟩
 unfold nT at h
 split at h
 ·rename_i f xs
  split at h
  case h_2=>exact h.elim
  rename_i vs hvs
  obtain ⟨vsI,a1,a2⟩:=aY h2 hvs
  exact call h a2 (by simp only[step,a8,o8,a1,Option.bind_some,callI];cases C.E.pcall f vsI s<;>rfl)
 ·rename_i x xs
  split at h
  case h_2=>exact h.elim
  rename_i g vs hg hvs
  obtain ⟨gI,b1,b2⟩:=k9 h2 hg
  obtain ⟨vsI,a1,a2⟩:=aY h2 hvs
  split at h
  case h_2=>
   unfold HT at h
   split at h
   case h_2=>exact h.elim
   rename_i o
   have b2':=b2
   simp only[b7] at b2'
   obtain ⟨_,d,rfl,_⟩:=b2'
   obtain ⟨v,st',hq,hs⟩:=h s μ F vsI d h1 a2 h3 h4 h5 b2
   obtain ⟨vI,s',e,hl⟩:=Rl.stp h1 h2 h3 h4 h5 hs
   exact ⟨vI,s',v,st',by simp only[step,a8,o8,a1,b1,Option.bind_some,Y2,Option.bind_none,LU];exact e,hq,hl⟩
  rename_i f ws hcl
  obtain ⟨wsI,c1,c2⟩:=CJ hcl b2 a2
  exact call h c2 (by simp only[step,a8,o8,a1,b1,c1,TJ c1,Option.bind_some,callI];cases C.E.pcall f wsI s<;>rfl)
 ·rename_i ms x xs
  split at h
  case h_2=>exact h.elim
  rename_i g vs hg hvs
  split at h
  case h_2=>exact h.elim
  rename_i f ws hcl
  obtain ⟨gI,b1,b2⟩:=k9 h2 hg
  obtain ⟨vsI,a1,a2⟩:=aY h2 hvs
  obtain ⟨wsI,c1,c2⟩:=TS hcl b2 a2
  exact call h c2 (by simp only[step,a8,o8,a1,b1,c1,Option.bind_some,callI];cases C.E.pcall f wsI s<;>rfl)
 ·split at h
  case h_2=>exact h.elim
  rename_i v st' hv
  obtain ⟨vI,s',e,hl⟩:=Rl.stp h1 h2 h3 h4 h5 (bC4 h1 h2 hv)
  exact ⟨vI,s',v,st',e,h,hl⟩
theorem Rl.put_tup {s:St} {frI:Fr} (hr:Rl C st fr s frI) (d:Option Nat):Rl C st (u9 fr d (.tup [])) s (H5 frI d (.tuple #[])):=by
 obtain ⟨μ,F,h1,h2,h3⟩:=hr
 exact ⟨μ,F,h1,h2.put (by simp only[b7,d8];exact ⟨[],rfl,rfl⟩) d,h3⟩
theorem Rl.keep {s:St} {frI:Fr} (hr:Rl C st fr s frI) (ks:List Nat):Rl C st (C9 ks fr) s (r7 ks frI):=by
 obtain ⟨μ,F,h1,h2,h3⟩:=hr
 exact ⟨μ,F,h1,h2.keep ks,h3⟩
theorem dN {s:St} {frI:Fr} (hr:Rl C st fr s frI) {t:Nat} {v:V} (h:f8 fr t=some v):(∀ b,v= .sc (.bool b)→E8 frI t=some (.bool b))∧(∀ l,v= .tup l→∃ l',E8 frI t=some (.tuple l')):=by
 obtain ⟨μ,F,h1,h2,h3⟩:=hr
 obtain ⟨vI,a,b⟩:=h2 t v h
 refine ⟨fun c e=>?_,fun l e=>?_⟩
 ·subst e;rw[b.scv] at a;exact a
 ·subst e;simp only[b7] at b;obtain ⟨vs,rfl,_⟩:=b;exact ⟨_,a⟩
theorem nS:∀ (l:List i7) {fr:D7} {st:l8} {Q:D7→l8→Prop},wpO C l fr st Q→∀ {s:St} {frI:Fr},Rl C st fr s frI→∃ frI' s' fr' st',H6 C.E l frI s=some (frI',s')∧Rl C st' fr' s' frI'∧Q fr' st'
 | [],fr,st,Q,h,s,frI,hr=>⟨frI,s,fr,st,rfl,hr,h⟩
 |⟨d,g,op⟩::l,fr,st,Q,h,s,frI,hr=>by
  simp only[wpO] at h
  split at h
  ·rename_i hg
   obtain ⟨vI,s',v,st',e,hq,hl⟩:=GZ h hr
   obtain ⟨frI',s2,fr',st2,e2,h1,h2⟩:=nS l hq (hl d)
   exact ⟨frI',s2,fr',st2,by simp[H6,wanted,e,e2],h1,h2⟩
  ·rename_i _ t want
   split at h
   ·rename_i b hb
    have hb':=(dN hr hb).1 b rfl
    split at h
    ·rename_i hbw
     obtain ⟨vI,s',v,st',e,hq,hl⟩:=GZ h hr
     obtain ⟨frI',s2,fr',st2,e2,h1,h2⟩:=nS l hq (hl d)
     exact ⟨frI',s2,fr',st2,by simp[H6,wanted,hb',hbw,e,e2],h1,h2⟩
    ·rename_i hbw
     obtain ⟨frI',s2,fr',st2,e2,h1,h2⟩:=nS l h (hr.put_tup d)
     have:(b==want)=false:=by simpa using hbw
     exact ⟨frI',s2,fr',st2,by simp[H6,wanted,hb',this,e2],h1,h2⟩
   ·rename_i l' hb
    obtain ⟨l2,hb'⟩:=(dN hr hb).2 l' rfl
    obtain ⟨frI',s2,fr',st2,e2,h1,h2⟩:=nS l h (hr.put_tup d)
    exact ⟨frI',s2,fr',st2,by simp[H6,wanted,hb',e2],h1,h2⟩
   ·exact h.elim
def hI:List (Nat × List u6)→List Bool→Nat→Prop
 | [],_,_=>False
 |_::r,true::ms,b=>hI r ms b
 |(n,bs)::r,false::ms,b=>(n≤b∧b<n+bs.length)∨hI r ms b
 |_::r,[],b=>hI r [] b
theorem oQ:∀ (ds:List (Nat × List u6)) (b:Nat),¬ hI ds [] b
 | [],_,h=>h
 |_::r,b,h=>oQ r b (by simpa only[hI] using h)
theorem oR (h:j9):∀ (ds:List (Nat × List u6)) (ms:List Bool) (b:Nat),¬ hI ds ms b→d9 (j5 h ds ms) b=d9 (j5 h ds []) b
 | [],_,_,_=>rfl
 |(n,bs)::r,true::ms,b,hn=>by
  simp only[hI] at hn
  simp only[j5]
  rw[w8,w8,oR h r ms b hn]
 |(n,bs)::r,false::ms,b,hn=>by
  simp only[hI,not_or] at hn
  simp only[j5]
  rw[w8,if_neg hn.1,oR h r ms b hn.2]
 |(n,bs)::r,[],b,hn=>rfl
def Al (μ:Nat→Option Nat) (lo:Nat):List (Nat × List u6)→List (Nat × Bool)→Prop
 | [],[]=>True
 |(n,bs)::r,(o,c)::q=>lo≤n∧bs.length≤1∧(bs ≠ []→c=true∧μ o=some n)∧Al μ lo r q
 |_,_=>False
theorem V6 (H:E4):∀ (vds:List (Nat × Bool)) (ms:List Bool) (o:Nat) (ob:Obj),f8 (O0 H vds ms) o=some ob→f8 H o=some ob
 | [],_,_,_,h=>h
 |_::r,true::ms,o,ob,h=>V6 H r ms o ob (by simpa only[O0] using h)
 |(i,c)::r,false::ms,o,ob,h=>by
  simp only[O0] at h
  split at h
  ·rw[G9] at h
   split at h
   ·cases h
   ·exact V6 H r ms o ob h
  ·exact V6 H r ms o ob h
 |_::r,[],o,ob,h=>V6 H r [] o ob (by simpa only[O0] using h)
theorem HI {μ:Nat→Option Nat} (hinj:∀ o o' b,μ o=some b→μ o'=some b→o=o') (H:E4) {lo:Nat}:∀ (ds:List (Nat × List u6)) (vds:List (Nat × Bool)) (ms:List Bool) (o:Nat) (ob:Obj) (b:Nat),Al μ lo ds vds→f8 (O0 H vds ms) o=some ob→μ o=some b→¬ hI ds ms b
 | [],[],ms,o,ob,b,_,_,_=>fun h=>h
 |(n,bs)::r,(i,c)::q,true::ms,o,ob,b,ha,h,hm=>by
  simp only[Al] at ha
  simp only[O0] at h
  simp only[hI]
  exact HI hinj H r q ms o ob b ha.2.2.2 h hm
 |(n,bs)::r,(i,c)::q,false::ms,o,ob,b,ha,h,hm=>by
  simp only[Al] at ha
  simp only[O0] at h
  simp only[hI,not_or]
  refine ⟨fun hb=>?_,?_⟩
  ·have hne:bs ≠ []:=fun e=>by subst e;simp at hb;omega
   obtain ⟨hc,hi⟩:=ha.2.2.1 hne
   rw[if_pos hc,G9] at h
   have hbn:b=n:=by have:=ha.2.1;omega
   subst hbn
   have:=hinj o i b hm hi
   rw[if_pos this] at h
   cases h
  ·split at h
   ·rw[G9] at h
    split at h
    ·cases h
    ·exact HI hinj H r q ms o ob b ha.2.2.2 h hm
   ·exact HI hinj H r q ms o ob b ha.2.2.2 h hm
 |(n,bs)::r,(i,c)::q,[],o,ob,b,ha,h,hm=>oQ _ _
 | [],_::_,ms,o,ob,b,ha,_,_=>by simp[Al] at ha
 |_::_,[],ms,o,ob,b,ha,_,_=>by simp[Al] at ha
theorem TA {μ:Nat→Option Nat} {lo:Nat}:∀ (ds:List (Nat × List u6)) (vds:List (Nat × Bool)) (ms:List Bool) (b:Nat),Al μ lo ds vds→b<lo→¬ hI ds ms b
 | [],[],ms,b,_,_=>fun h=>h
 |(n,bs)::r,(i,c)::q,true::ms,b,ha,h=>by
  simp only[Al] at ha
  simp only[hI]
  exact TA r q ms b ha.2.2.2 h
 |(n,bs)::r,(i,c)::q,false::ms,b,ha,h=>by
  simp only[Al] at ha
  simp only[hI,not_or]
  exact ⟨fun hb=>by omega,TA r q ms b ha.2.2.2 h⟩
 |(n,bs)::r,(i,c)::q,[],b,ha,h=>oQ _ _
 | [],_::_,ms,b,ha,_=>by simp[Al] at ha
 |_::_,[],ms,b,ha,_=>by simp[Al] at ha
theorem aM0 {μ:Nat→Option Nat} {lo:Nat}:∀ (ds:List (Nat × List u6)) (vds:List (Nat × Bool)) (ms:List Bool) (b:Nat),Al μ lo ds vds→hI ds ms b→∃ o,μ o=some b
 | [],[],ms,b,_,h=>h.elim
 |(n,bs)::r,(i,c)::q,true::ms,b,ha,h=>by
  simp only[Al] at ha
  simp only[hI] at h
  exact aM0 r q ms b ha.2.2.2 h
 |(n,bs)::r,(i,c)::q,false::ms,b,ha,h=>by
  simp only[Al] at ha
  simp only[hI] at h
  rcases h with hb|h
  ·have hne:bs ≠ []:=fun e=>by subst e;simp at hb;omega
   have hbn:b=n:=by have:=ha.2.1;omega
   subst hbn
   exact ⟨i,(ha.2.2.1 hne).2⟩
  ·exact aM0 r q ms b ha.2.2.2 h
 |(n,bs)::r,(i,c)::q,[],b,ha,h=>(oQ _ _ h).elim
 | [],_::_,ms,b,ha,_=>by simp[Al] at ha
 |_::_,[],ms,b,ha,_=>by simp[Al] at ha
theorem Al.mono {μ μ':Nat→Option Nat} {lo:Nat} (hm:∀ o b,μ o=some b→μ' o=some b):∀ (ds:List (Nat × List u6)) (vds:List (Nat × Bool)),Al μ lo ds vds→Al μ' lo ds vds
 | [],[],_=>trivial
 |(n,bs)::r,(i,c)::q,h=>by
  simp only[Al] at h ⊢
  exact ⟨h.1,h.2.1,fun hne=>⟨(h.2.2.1 hne).1,hm _ _ (h.2.2.1 hne).2⟩,Al.mono hm r q h.2.2.2⟩
 | [],_::_,h=>by simp[Al] at h
 |_::_,[],h=>by simp[Al] at h
theorem WN (s0:St) (F:Nat→Prop) (hF0:∀ b,F b→b<s0.next):∀ (l:List i7) (hid:List (List Bool)) {vds:List (Nat × Bool)} {ds:List (Nat × List u6)} {fr:D7} {st:l8} {Q:D7→l8→Prop} {μ:Nat→Option Nat} {frI:Fr} {n:Nat},wpP C l hid vds fr st Q→
  SR C st ⟨j5 s0.heap ds [],n,s0.prot⟩ μ F→FR (u5 C st ⟨j5 s0.heap ds [],n,s0.prot⟩ μ F) fr frI→VW.le C.w0 (u5 C st ⟨j5 s0.heap ds [],n,s0.prot⟩ μ F)→s0.prot=C.p0→(∀ b,F b→C.w0.F b∨C.p0≤b)→Al μ s0.next ds vds→s0.next≤n→
  ∃ frI' ds' n' fr' st',aL C.E s0 l hid ds frI n=some (frI',ds',n')∧Rl C st' fr' ⟨j5 s0.heap ds' [],n',s0.prot⟩ frI'∧Q fr' st'
 | [],hid,vds,ds,fr,st,Q,μ,frI,n,h,h1,h2,h3,h4,h5,h6,h7=>⟨frI,ds,n,fr,st,rfl,⟨μ,F,h1,h2,h3,h4,h5⟩,h⟩
 |⟨d,g,op⟩::l,hid,vds,ds,fr,st,Q,μ,frI,n,h,h1,h2,h3,h4,h5,h6,h7=>by
  have hrl:Rl C st fr ⟨j5 s0.heap ds [],n,s0.prot⟩ frI:=⟨μ,F,h1,h2,h3,h4,h5⟩
  let m:=hid.headD []
  let hp:=j5 s0.heap ds m
  let wv:VW:=⟨m9 C.E hp,F,μ,st.next⟩
  have hFg:∀ b,F b→d9 hp b=d9 (j5 s0.heap ds []) b:=fun b hb=>oR _ _ _ _ (TA ds vds m b h6 (hF0 b hb))
  have hld:∀ a,(u5 C st ⟨j5 s0.heap ds [],n,s0.prot⟩ μ F).inF a→m9 C.E hp a=m9 C.E (j5 s0.heap ds []) a:=fun a i=>by
   obtain ⟨b,o,sp⟩:=a
   cases sp with
   |none=>rfl
   |some k=>simp only[m9];rw[hFg b i]
  have hle:VW.le (u5 C st ⟨j5 s0.heap ds [],n,s0.prot⟩ μ F) wv:=⟨hld,fun _ h=>h,Nat.le_refl _,fun _ _ _ h=>h⟩
  have hle2:VW.le wv (u5 C st ⟨j5 s0.heap ds [],n,s0.prot⟩ μ F):=⟨fun a i=>(hld a i).symm,fun _ h=>h,Nat.le_refl _,fun _ _ _ h=>h⟩
  have hHR:HR C.E (O0 st.own vds m) hp wv:=by
   refine ⟨rfl,fun o ob e hn=>?_,fun b hb=>?_⟩
   ·obtain ⟨b,blk,m1,m2,m3⟩:=h1.obj o ob (V6 _ _ _ _ _ e) hn
    exact ⟨b,blk,m1,by rw[oR _ _ _ _ (HI h1.inj st.own ds vds m o ob b h6 e m1)];exact m2,m3.mono hle⟩
   ·obtain ⟨blk,hb'⟩:=(h1.lt b hb).2
    exact ⟨blk,by rw[hFg b hb];exact hb'⟩
  have hreads:FR wv (C9 (p9 ⟨d,g,op⟩) fr) (r7 (p9 ⟨d,g,op⟩) frI):=(h2.mono hle).keep _
  have next:∀ {v:V} {ob:Option Obj} {vI:Value} {bs:List u6},hY hp wv n v ob [] vI bs→wpP C l hid.tail ((st.next,ob.isSome)::vds) (u9 fr d v) (st.push ob []) Q→a8 C.E (r7 (p9 ⟨d,g,op⟩) frI) ⟨hp,n,n⟩ op=some (vI,bs)→wanted (r7 (p9 ⟨d,g,op⟩) frI) g=some true→
    ∃ frI' ds' n' fr' st',aL C.E s0 (⟨d,g,op⟩::l) hid ds frI n=some (frI',ds',n')∧Rl C st' fr' ⟨j5 s0.heap ds' [],n',s0.prot⟩ frI'∧Q fr' st':=by
   intro v ob vI bs hp1 hq he hw
   have hp2:hY (j5 s0.heap ds []) (u5 C st ⟨j5 s0.heap ds [],n,s0.prot⟩ μ F) n v ob [] vI bs:=by
    cases ob with
    |none=>exact ⟨hp1.1,hp1.2.1,hp1.2.2.mono hle2⟩
    |some o=>
     obtain ⟨a1,a2,a3,blk,a4,a5⟩:=hp1
     exact ⟨a1,a2,a3,blk,a4,fun w' k1 k2 k3 k4 k5=>a5 w' (hle2.trans k1) (fun o ho=>by cases ho) (fun o ho=>by cases ho) k4 k5⟩
   obtain ⟨q1,q2,q3,q4⟩:=h1.push hp2 rfl
   rw[U3] at q1 q2 q3
   have hbs:bs.length≤1∧(bs ≠ []→ob.isSome=true∧UT μ st ⟨j5 s0.heap ds [],n,s0.prot⟩ ob st.next=some n)∧(∀ o b,μ o=some b→UT μ st ⟨j5 s0.heap ds [],n,s0.prot⟩ ob o=some b):=by
    cases ob with
    |none=>rw[hp1.1];exact ⟨by simp,fun h=>absurd rfl h,fun _ _ h=>h⟩
    |some o=>
     obtain ⟨_,_,_,blk,a4,_⟩:=hp1
     rw[a4]
     refine ⟨by simp,fun _=>⟨rfl,by simp[UT]⟩,fun o' b e=>?_⟩
     have:=(h1.dom o' b e).2.1
     simp only[UT]
     rw[if_neg (by omega)]
     exact e
   have hal:Al (UT μ st ⟨j5 s0.heap ds [],n,s0.prot⟩ ob) s0.next ((n,bs)::ds) ((st.next,ob.isSome)::vds):=by
    simp only[Al]
    exact ⟨h7,hbs.1,hbs.2.1,Al.mono hbs.2.2 ds vds h6⟩
   obtain ⟨frI',ds',n',fr',st',e1,e2,e3⟩:=WN s0 F hF0 l hid.tail (ds:=(n,bs)::ds) (n:=n+bs.length) (frI:=H5 frI d vI) hq q1 ((h2.mono q3).put q2 d) (h3.trans q3) h4 h5 hal (by omega)
   refine ⟨frI',ds',n',fr',st',?_,e2,e3⟩
   simp only[aL,hw,Option.bind_some]
   rw[show a8 C.E (r7 (p9 ⟨d,g,op⟩) frI) ⟨j5 s0.heap ds (hid.headD []),n,n⟩ op=some (vI,bs) from he]
   exact e1
  have skip:wpP C l hid.tail ((st.next,false)::vds) (u9 fr d (.tup [])) st Q→wanted (r7 (p9 ⟨d,g,op⟩) frI) g=some false→
    ∃ frI' ds' n' fr' st',aL C.E s0 (⟨d,g,op⟩::l) hid ds frI n=some (frI',ds',n')∧Rl C st' fr' ⟨j5 s0.heap ds' [],n',s0.prot⟩ frI'∧Q fr' st':=by
   intro hq hw
   have hal:Al μ s0.next ((n,[])::ds) ((st.next,false)::vds):=by
    simp only[Al]
    exact ⟨h7,by simp,fun h=>absurd rfl h,h6⟩
   obtain ⟨frI',ds',n',fr',st',e1,e2,e3⟩:=WN s0 F hF0 l hid.tail (ds:=(n,[])::ds) (n:=n) (frI:=H5 frI d (.tuple #[])) hq h1 (h2.put (by simp only[b7,d8];exact ⟨[],rfl,rfl⟩) d) h3 h4 h5 hal h7
   refine ⟨frI',ds',n',fr',st',?_,e2,e3⟩
   simp only[aL,hw,Option.bind_some]
   exact e1
  have run:∀ {Q':V→Option Obj→Prop},KM C (C9 (p9 ⟨d,g,op⟩) fr) (O0 st.own vds m) st op Q'→∃ v ob vI bs,hY hp wv n v ob [] vI bs∧Q' v ob∧a8 C.E (r7 (p9 ⟨d,g,op⟩) frI) ⟨hp,n,n⟩ op=some (vI,bs):=by
   intro Q' hq
   have hbnd:∀ b blk,d9 hp b=some blk→b<n:=fun b blk hb=>by
    by_cases hh:hI ds m b
    ·obtain ⟨o,e⟩:=aM0 ds vds m b h6 hh;exact (h1.dom o b e).1
    ·rw[oR _ _ _ _ hh] at hb;exact h1.hb b blk hb
   have call:∀ {f:FuncId} {ws:List V} {wsI:List Value},uT C f ws (O0 st.own vds m) st.next (fun v=>Q' v none) (fun v ob=>Q' v (some ob))→d8 wv ws wsI→a8 C.E (r7 (p9 ⟨d,g,op⟩) frI) ⟨hp,n,n⟩ op=C.E.pcall f wsI ⟨hp,n,n⟩→
     ∃ v ob vI bs,hY hp wv n v ob [] vI bs∧Q' v ob∧a8 C.E (r7 (p9 ⟨d,g,op⟩) frI) ⟨hp,n,n⟩ op=some (vI,bs):=by
    intro f ws wsI hc hw he
    let μm:Nat→Option Nat:=fun o=>if (f8 (O0 st.own vds m) o).isSome then μ o else none
    have hμm:∀ o b,μm o=some b→μ o=some b∧∃ ob,f8 (O0 st.own vds m) o=some ob:=fun o b e=>by
     simp only[μm] at e
     split at e
     ·rename_i hs;exact ⟨e,Option.isSome_iff_exists.1 hs⟩
     ·cases e
    have hle3:VW.le wv ⟨m9 C.E hp,F,μm,st.next⟩:=⟨fun _ _=>rfl,fun _ h=>h,Nat.le_refl _,fun o b _ e=>(hμm o b e).1⟩
    have hsr:SR (C1 C.E ⟨hp,n,n⟩ wv) ⟨O0 st.own vds m,st.next,st.next⟩ ⟨hp,n,n⟩ μm F:=by
     refine ⟨?_,?_,?_,?_,?_,?_,?_,?_,Nat.le_refl _,?_,hbnd,Nat.le_refl _,?_⟩
     ·intro o ob e hn
      obtain ⟨b,blk,m1,m2,m3⟩:=hHR.obj o ob e hn
      exact ⟨b,blk,by simp only[μm,e,Option.isSome_some,if_true];exact m1,m2,m3.mono hle3⟩
     ·intro o ob b e e2 hz
      have e3:=V6 _ _ _ _ _ e
      refine ⟨(h1.wr o ob b e3 (hμm o b e2).1 hz).1,fun hro=>?_⟩
      have:=(h1.own o ob e3).1
      simp only at hro;omega
     ·intro o ob b e e2 hz
      exact h1.fz o ob b (V6 _ _ _ _ _ e) (hμm o b e2).1 hz
     ·intro o o' b e e'
      exact h1.inj o o' b (hμm o b e).1 (hμm o' b e').1
     ·intro o b e
      obtain ⟨e1,ob,e2⟩:=hμm o b e
      obtain ⟨d1,d2,ob',d3,d4⟩:=h1.dom o b e1
      have:=V6 _ _ _ _ _ e2
      rw[d3] at this
      cases this
      exact ⟨d1,d2,_,e2,d4⟩
     ·intro b hb
      exact ⟨(h1.lt b hb).1,hHR.ex b hb⟩
     ·intro b hb
      obtain ⟨blk,c1,c2⟩:=h1.cl b hb
      exact ⟨blk,by rw[show (⟨hp,n,n⟩:St).heap=hp from rfl,hFg b hb];exact c1,c2⟩
     ·intro b hb
      exact ⟨hb,rfl⟩
     ·intro o ob e
      exact h1.own o ob (V6 _ _ _ _ _ e)
     ·intro o b e hro
      have:=(h1.dom o b (hμm o b e).1).2.1
      simp only at hro;omega
    rcases hc with ⟨v,hc,hv⟩|⟨v,ob,⟨o1,o2,o3,hc⟩,hv⟩
    ·obtain ⟨vI,e1,e2⟩:=hc ⟨hp,n,n⟩ μm F wsI wv hsr (d8.mono hle3 hw)
     exact ⟨v,none,vI,[],.pure (e2 wv),hv,by rw[he];exact e1⟩
    ·obtain ⟨vI,blk,e1,e2⟩:=hc ⟨hp,n,n⟩ μm F wsI wv hsr (d8.mono hle3 hw)
     exact ⟨v,some ob,vI,[blk],⟨o1,o2,o3,blk,rfl,fun w' _ _ _ k4 k5=>e2 w' k4 k5⟩,hv,by rw[he];exact e1⟩
   unfold KM at hq
   split at hq
   ·split at hq
    case h_2=>exact hq.elim
    rename_i vs hvs
    obtain ⟨vsI,a1,a2⟩:=aY hreads hvs
    exact call hq a2 (by simp only[a8,a1,Option.bind_some])
   ·split at hq
    case h_2=>exact hq.elim
    rename_i g' vs hg hvs
    split at hq
    case h_2=>exact hq.elim
    rename_i f ws hcl
    obtain ⟨gI,b1,b2⟩:=k9 hreads hg
    obtain ⟨vsI,a1,a2⟩:=aY hreads hvs
    obtain ⟨wsI,c1,c2⟩:=CJ hcl b2 a2
    exact call hq c2 (by simp only[a8,a1,b1,c1,Option.bind_some])
   ·split at hq
    case h_2=>exact hq.elim
    rename_i v ob fz hv
    split at hq
    case isFalse=>exact hq.elim
    rename_i hz
    rw[List.isEmpty_iff] at hz
    subst hz
    obtain ⟨vI,bs,e1,e2⟩:=sF (n:=n) (p:=n) hHR hreads hv
    exact ⟨v,ob,vI,bs,e2,hq,e1⟩
  simp only[wpP] at h
  split at h
  ·obtain ⟨v,ob,vI,bs,r1,r2,r3⟩:=run h
   exact next r1 r2 r3 rfl
  ·rename_i _ t want
   have ht:t ∈ p9 ⟨d,some (t,want),op⟩:=by simp[p9]
   split at h
   ·rename_i b hb
    have hb':=(dN hrl hb).1 b rfl
    split at h
    ·rename_i hbw
     obtain ⟨v,ob,vI,bs,r1,r2,r3⟩:=run h
     exact next r1 r2 r3 (by simp only[wanted];rw[I3 _ _ _ ht,hb'];simp[hbw])
    ·rename_i hbw
     have hbw':(b==want)=false:=by simpa using hbw
     exact skip h (by simp only[wanted];rw[I3 _ _ _ ht,hb'];simp[hbw'])
   ·rename_i l' hb
    obtain ⟨l2,hb'⟩:=(dN hrl hb).2 l' rfl
    exact skip h (by simp only[wanted];rw[I3 _ _ _ ht,hb'];rfl)
   ·exact h.elim
theorem nR:∀ (c:AC) {fr:D7} {st:l8} {P:A8},KL C c fr st P→DV C (A4 C.E c) fr st P
 | .skip,fr,st,P,h,frI,s,hr=>⟨.normal,frI,s,rfl,fr,st,hr,h⟩
 | .ops l ks,fr,st,P,h,frI,s,hr=>by
  obtain ⟨frI',s',fr',st',e,h1,h2⟩:=nS l h hr
  exact ⟨.normal,r7 ks frI',s',by simp[A4,e],C9 ks fr',st',h1.keep ks,h2⟩
 | .draw pre tail hid ks,fr,st,P,h,frI,s,hr=>by
  simp only[KL] at h
  obtain ⟨μ,F,h1,h2,h3,h4,h5⟩:=hr
  obtain ⟨frI',ds,n,fr',st',e,g1,g2⟩:=WN s F (fun b hb=>(h1.lt b hb).1) pre hid (ds:= []) (n:=s.next) (frI:=frI) h h1 h2 h3 h4 h5 trivial (Nat.le_refl _)
  obtain ⟨frI2,s2,fr2,st2,e2,k1,k2⟩:=nS tail g2 g1
  refine ⟨.normal,r7 ks frI2,s2,?_,C9 ks fr2,st2,k1.keep ks,k2⟩
  simp only[A4,e,Option.bind_some]
  rw[e2]
  rfl
 | .drawW pre tail ks,fr,st,P,h,frI,s,hr=>h frI s hr
 | .seq a b,fr,st,P,h,frI,s,hr=>by
  obtain ⟨ex,frI',s',e,fr',st',h1,h2⟩:=nR a h frI s hr
  cases ex with
  |normal=>
   obtain ⟨ex2,frI2,s2,e2,fr2,st2,k1,k2⟩:=nR b h2 frI' s' h1
   exact ⟨ex2,frI2,s2,by simp[A4,e,e2],fr2,st2,k1,k2⟩
  |exit i=>exact ⟨.exit i,frI',s',by simp[A4,e],fr',st',h1,h2⟩
  |ret=>exact ⟨.ret,frI',s',by simp[A4,e],fr',st',h1,h2⟩
 | .cond c t e,fr,st,P,h,frI,s,hr=>by
  simp only[KL] at h
  split at h
  case h_2=>exact h.elim
  rename_i b hb
  obtain ⟨μ,F,h1,h2,h3⟩:=hr
  obtain ⟨vI,a1,a2⟩:=k9 h2 hb
  rw[a2.scv] at a1
  split at h
  ·rename_i hbt
   subst hbt
   obtain ⟨ex,frI',s',e1,fr',st',k1,k2⟩:=nR t h frI s ⟨μ,F,h1,h2,h3⟩
   exact ⟨ex,frI',s',by simp[A4,a1,e1],fr',st',k1,k2⟩
  ·rename_i hbt
   simp only[Bool.not_eq_true] at hbt
   subst hbt
   obtain ⟨ex,frI',s',e1,fr',st',k1,k2⟩:=nR e h frI s ⟨μ,F,h1,h2,h3⟩
   exact ⟨ex,frI',s',by simp[A4,a1,e1],fr',st',k1,k2⟩
 | .block id b,fr,st,P,h,frI,s,hr=>by
  obtain ⟨ex,frI',s',e,fr',st',h1,h2⟩:=nR b h frI s hr
  cases ex with
  |normal=>exact ⟨.normal,frI',s',by simp[A4,e],fr',st',h1,h2⟩
  |ret=>exact ⟨.ret,frI',s',by simp[A4,e],fr',st',h1,h2⟩
  |exit i=>
   simp only at h2
   by_cases hi:i=id
   ·rw[if_pos hi] at h2
    exact ⟨.normal,frI',s',by simp only[A4,e,Option.map_some];rw[if_pos (i6.2 hi)],fr',st',h1,h2⟩
   ·rw[if_neg hi] at h2
    exact ⟨.exit i,frI',s',by simp only[A4,e,Option.map_some];rw[if_neg (by rw[i6];exact hi)],fr',st',h1,h2⟩
 | .loop ks b,fr,st,P,h,frI,s,hr=>h frI s hr
 | .rangeF g ps ks a b,fr,st,P,h,frI,s,hr=>h frI s hr
 | .exit id,fr,st,P,h,frI,s,hr=>⟨.exit id,frI,s,rfl,fr,st,hr,h⟩
 | .ret,fr,st,P,h,frI,s,hr=>⟨.ret,frI,s,rfl,fr,st,hr,h⟩
 | .bad,fr,st,P,h,frI,s,hr=>h.elim
def M3 (C:C5) (fr:D7) (st:l8) (fr':D7) (st':l8):Prop:=∀ s frI,Rl C st fr s frI→Rl C st' fr' s frI
theorem M3.refl (fr:D7) (st:l8):M3 C fr st fr st:=fun _ _ h=>h
def aL6 (C:C5) (I:Nat→D7→l8→Prop) (m:Nat) (P:A8):A8
 | .normal,fr,st=>∃ m' fr' st',m'<m∧M3 C fr st fr' st'∧I m' fr' st'
 |ex,fr,st=>P ex fr st
theorem bP1 {ks:List Nat} {b:AC} (I:Nat→D7→l8→Prop) (hround:∀ m fr st,I m fr st→KL C b (C9 ks fr) st (aL6 C I m P)):
  ∀ (N m:Nat) (fr:D7) (st:l8) (frI:Fr) (s:St),I m fr st→m<N→Rl C st fr s frI→∃ ex frI' s',iter (fun fr s=>A4 C.E b (r7 ks fr) s) N frI s=some (ex,frI',s')∧∃ fr' st',Rl C st' fr' s' frI'∧P ex fr' st'
 |0,m,fr,st,frI,s,hi,hm,hr=>absurd hm (Nat.not_lt_zero _)
 |N+1,m,fr,st,frI,s,hi,hm,hr=>by
  obtain ⟨ex,frI',s',e,fr',st',h1,h2⟩:=nR b (hround m fr st hi) (r7 ks frI) s (hr.keep ks)
  cases ex with
  |normal=>
   obtain ⟨m',fr2,st2,hlt,hw,hi'⟩:=h2
   obtain ⟨ex3,frI3,s3,e3,fr3,st3,k1,k2⟩:=bP1 I hround N m' fr2 st2 frI' s' hi' (by omega) (hw s' frI' h1)
   exact ⟨ex3,frI3,s3,by simp only[iter,e];exact e3,fr3,st3,k1,k2⟩
  |exit i=>exact ⟨.exit i,frI',s',by simp only[iter,e],fr',st',h1,h2⟩
  |ret=>exact ⟨.ret,frI',s',by simp only[iter,e],fr',st',h1,h2⟩
theorem aP3 {ks:List Nat} {b:AC} (I:Nat→D7→l8→Prop) (m:Nat) (fr':D7) (st':l8) (hw:M3 C fr st fr' st') (hi:I m fr' st') (hm:m<C.E.rounds) (hround:∀ m fr st,I m fr st→KL C b (C9 ks fr) st (aL6 C I m P)):
  DV C (A4 C.E (.loop ks b)) fr st P:=fun frI s hr=>by
 obtain ⟨ex,frI',s',e,h⟩:=bP1 I hround C.E.rounds m fr' st' frI s hi hm (hw s frI hr)
 exact ⟨ex,frI',s',e,h⟩
end
mutual
def Y1:V→List Nat
 | .ref o _ _ _=> [o]
 | .gr _ o _=> [o]
 | .ptr o _=> [o]
 | .agg l=>eI l
 | .tup l=>eI l
 | .fn _ a b=>eI a++eI b
 | .ifc _ v=>Y1 v
 |_=> []
def eI:List V→List Nat
 | []=> []
 |v::r=>Y1 v++eI r
end
mutual
def Cl (H:E4):V→Prop
 | .sc _=>True
 | .sl s n l=>JJ (.sl s n l)=true
 | .slk _ _ _ _=>True
 | .dp _ _=>True
 | .ref o _ _ _=>∃ ob,f8 H o=some ob∧ob.none=false
 | .gr s o n=>∃ t e z l,f8 H o=some (.gro t e z l)∧(n=0↔l= [])
 | .ptr o _=>∃ ob,f8 H o=some ob∧ob.none=false
 | .agg l=>HB H l
 | .tup l=>HB H l
 | .fn _ a b=>HB H a∧HB H b
 | .ifc _ v=>Cl H v
 | .dead=>False
 | .tok _=>False
def HB (H:E4):List V→Prop
 | []=>True
 |v::r=>Cl H v∧HB H r
end
inductive VR (H:E4) (v:V):Nat→Prop
 |root (o:Nat):o ∈ Y1 v→VR H v o
 |box (o o1:Nat) (t:TypeId) (e:Nat) (l:List V):VR H v o1→f8 H o1=some (.box t e l)→o ∈ eI l→VR H v o
structure bM (H:E4) (v:V):Prop where
 cl:Cl H v
 box:∀ o t e l,f8 H o=some (.box t e l)→HB H l
 all:∀ o ob,f8 H o=some ob→ob.none=false→VR H v o
def Y8 (n0:Nat) (done:List Nat):j9→Nat
 | []=>0
 |(j,b)::r=>(if l7 j done then 0 else (x8 n0 b.cells).length)+Y8 n0 done r
theorem QB (n0:Nat):∀ h:j9,Y8 n0 [] h=uH n0 h
 | []=>rfl
 |(j,b)::r=>by simp[Y8,uH,l7,QB n0 r]
theorem QC (x i j:Nat) (done:List Nat):(if l7 j (i::done)=true then 0 else x)≤(if l7 j done=true then 0 else x):=by
 have h:l7 j done=true→l7 j (i::done)=true:=fun h=>(j7 _ _).2 (List.mem_cons_of_mem _ ((j7 _ _).1 h))
 by_cases h1:l7 j (i::done)=true
 ·rw[if_pos h1];exact Nat.zero_le _
 ·rw[if_neg h1,if_neg (fun h2=>h1 (h h2))];exact Nat.le_refl _
theorem FA (n0:Nat) (i:Nat) (done:List Nat):∀ h:j9,Y8 n0 (i::done) h≤Y8 n0 done h
 | []=>Nat.le_refl _
 |(j,b)::r=>by
  have ih:=FA n0 i done r
  simp only[Y8]
  have:=QC (x8 n0 b.cells).length i j done
  omega
theorem EZ (n0:Nat) (i:Nat) (done:List Nat) (hi:¬ l7 i done=true):∀ (h:j9) (b:u6),d9 h i=some b→Y8 n0 (i::done) h+(x8 n0 b.cells).length≤Y8 n0 done h
 | [],b,h=>by cases h
 |(j,c)::r,b,h=>by
  rw[l6] at h
  simp only[Y8]
  split at h
  ·rename_i hij
   cases h
   subst hij
   have:=FA n0 i done r
   rw[if_pos ((j7 _ _).2 List.mem_cons_self),if_neg hi]
   omega
  ·rename_i hij
   have ih:=EZ n0 i done hi r b h
   have:=QC (x8 n0 c.cells).length i j done
   omega
theorem jJ {n0:Nat} {h:j9} {R:Nat→Prop} (hR:∀ b,R b→n0≤b→∃ blk,d9 h b=some blk∧∀ i ∈ x8 n0 blk.cells,R i):∀ (f:Nat) (todo done:List Nat),(∀ i ∈ todo,n0≤i∧R i)→todo.length+Y8 n0 done h≤f→∃ d,aO n0 h f todo done=some d
 |f,[],done,_,_=>⟨done,by cases f<;>rfl⟩
 |0,_::_,done,_,hf=>by simp at hf
 |f+1,i::todo,done,ht,hf=>by
  simp only[aO]
  rw[List.length_cons] at hf
  by_cases hi:l7 i done=true
  ·rw[if_pos hi]
   exact jJ hR f todo done (fun j hj=>ht j (List.mem_cons_of_mem _ hj)) (by omega)
  ·rw[if_neg hi]
   obtain ⟨h1,h2⟩:=ht i List.mem_cons_self
   obtain ⟨blk,hb,hc⟩:=hR i h2 h1
   rw[hb]
   have:=EZ n0 i done hi h blk hb
   refine jJ hR f _ _ (fun j hj=>?_) (by rw[List.length_append];omega)
   rcases List.mem_append.1 hj with hj|hj
   ·exact ⟨fJ _ j hj,hc j hj⟩
   ·exact ht j (List.mem_cons_of_mem _ hj)
theorem JL {n0:Nat} {h:j9} {R:Nat→Prop} (hR:∀ b,R b→n0≤b→∃ blk,d9 h b=some blk∧∀ i ∈ x8 n0 blk.cells,R i) (l:List Nat) (hl:∀ i ∈ l,n0≤i∧R i):∃ d,jI n0 h l=some d:=by
 unfold jI
 split
 ·exact ⟨_,rfl⟩
 ·exact jJ hR _ l [] hl (by rw[QB];exact Nat.le_refl _)
theorem pG {n0:Nat} {h:j9} {ord:List Nat}:∀ (l:List Nat),(∀ i ∈ l,∃ b,d9 h i=some b)→∃ bs,aK n0 h ord l=some bs
 | [],_=>⟨[],rfl⟩
 |i::r,hl=>by
  obtain ⟨b,hb⟩:=hl i List.mem_cons_self
  obtain ⟨bs,hbs⟩:=pG (n0:=n0) (ord:=ord) r fun j hj=>hl j (List.mem_cons_of_mem _ hj)
  exact ⟨{b with cells:=R1 (y5 n0 ord) b.cells}::bs,by simp only[aK,hb,hbs,Option.bind_some,Option.map_some]⟩
mutual
theorem rI:∀ (v:Value),r5 0 v= []→∀ n,r5 n v= []
 | .pointer none,_,n=>rfl
 | .pointer (some ⟨b,o,none⟩),_,n=>rfl
 | .pointer (some ⟨b,o,some k⟩),h,n=>by simp[r5,n5] at h
 | .slice none _ _,_,n=>rfl
 | .slice (some ⟨b,o,none⟩) _ _,_,n=>rfl
 | .slice (some ⟨b,o,some k⟩) _ _,h,n=>by simp[r5,n5] at h
 | .func fn ⟨x⟩ ⟨y⟩,h,n=>by
  simp only[r5,List.append_eq_nil_iff] at h ⊢
  exact ⟨bW x h.1 n,bW y h.2 n⟩
 | .iface t v,h,n=>by simp only[r5] at h ⊢;exact rI v h n
 | .agg ⟨l⟩,h,n=>by simp only[r5] at h ⊢;exact bW l h n
 | .tuple ⟨l⟩,h,n=>by simp only[r5] at h ⊢;exact bW l h n
 | .bool _,_,n=>rfl
 | .int _ _,_,n=>rfl
 | .float _ _,_,n=>rfl
 | .complex _ _ _,h,n=>by simp[r5] at h
 | .string _,_,n=>rfl
 | .map _,_,n=>rfl
 | .chan none,_,n=>rfl
 | .chan (some d),h,n=>by simp[r5] at h
 | .nilFunc,_,n=>rfl
 | .nilIface,_,n=>rfl
theorem bW:∀ (l:List Value),x8 0 l= []→∀ n,x8 n l= []
 | [],_,n=>rfl
 |v::r,h,n=>by
  simp only[x8,List.append_eq_nil_iff] at h ⊢
  exact ⟨rI v h.1 n,bW r h.2 n⟩
end
mutual
theorem YJ (f:Nat→Nat) (n:Nat):∀ (v:Value) (j:Nat),j ∈ r5 n (P9 f v)→(∃ i ∈ r5 0 v,j=f i)∨(j=n∧∀ m,m ∈ r5 m v)
 | .pointer none,j,h=>by simp[P9,G4,r5,n5] at h
 | .pointer (some ⟨b,o,none⟩),j,h=>by simp[P9,G4,r5,n5] at h
 | .pointer (some ⟨b,o,some k⟩),j,h=>by
  simp only[P9,G4,r5,n5] at h ⊢
  split at h
  ·simp at h;left;exact ⟨b,by simp,h⟩
  ·cases h
 | .slice none _ _,j,h=>by simp[P9,G4,r5,n5] at h
 | .slice (some ⟨b,o,none⟩) _ _,j,h=>by simp[P9,G4,r5,n5] at h
 | .slice (some ⟨b,o,some k⟩) _ _,j,h=>by
  simp only[P9,G4,r5,n5] at h ⊢
  split at h
  ·simp at h;left;exact ⟨b,by simp,h⟩
  ·cases h
 | .func fn ⟨x⟩ ⟨y⟩,j,h=>by
  simp only[P9,r5,List.mem_append] at h ⊢
  rcases h with h|h
  ·rcases dP f n x j h with ⟨i,hi,e⟩|⟨e,hm⟩
   ·exact .inl ⟨i,.inl hi,e⟩
   ·exact .inr ⟨e,fun m=> .inl (hm m)⟩
  ·rcases dP f n y j h with ⟨i,hi,e⟩|⟨e,hm⟩
   ·exact .inl ⟨i,.inr hi,e⟩
   ·exact .inr ⟨e,fun m=> .inr (hm m)⟩
 | .iface t v,j,h=>by simp only[P9,r5] at h ⊢;exact YJ f n v j h
 | .agg ⟨l⟩,j,h=>by simp only[P9,r5] at h ⊢;exact dP f n l j h
 | .tuple ⟨l⟩,j,h=>by simp only[P9,r5] at h ⊢;exact dP f n l j h
 | .bool _,j,h=>by simp[P9,r5] at h
 | .int _ _,j,h=>by simp[P9,r5] at h
 | .float _ _,j,h=>by simp[P9,r5] at h
 | .complex _ _ _,j,h=>by
  simp only[P9,r5,List.mem_singleton] at h
  right
  exact ⟨h,fun m=>by simp[r5]⟩
 | .string _,j,h=>by simp[P9,r5] at h
 | .map _,j,h=>by simp[P9,r5] at h
 | .chan none,j,h=>by simp[P9,r5] at h
 | .chan (some d),j,h=>by
  simp only[P9,r5] at h ⊢
  split at h
  ·simp at h;left;exact ⟨d,by simp,h⟩
  ·cases h
 | .nilFunc,j,h=>by simp[P9,r5] at h
 | .nilIface,j,h=>by simp[P9,r5] at h
theorem dP (f:Nat→Nat) (n:Nat):∀ (l:List Value) (j:Nat),j ∈ x8 n (R1 f l)→(∃ i ∈ x8 0 l,j=f i)∨(j=n∧∀ m,m ∈ x8 m l)
 | [],j,h=>by simp[R1,x8] at h
 |v::r,j,h=>by
  simp only[R1,x8,List.mem_append] at h ⊢
  rcases h with h|h
  ·rcases YJ f n v j h with ⟨i,hi,e⟩|⟨e,hm⟩
   ·exact .inl ⟨i,.inl hi,e⟩
   ·exact .inr ⟨e,fun m=> .inl (hm m)⟩
  ·rcases dP f n r j h with ⟨i,hi,e⟩|⟨e,hm⟩
   ·exact .inl ⟨i,.inr hi,e⟩
   ·exact .inr ⟨e,fun m=> .inr (hm m)⟩
end
theorem NV {n:Nat}:∀ (l:List Value) (k:Nat) (x:Value),l[k]? =some x→∀ i ∈ r5 n x,i ∈ x8 n l:=by
 intro l
 induction l with
 |nil=>intro k x h;simp at h
 |cons y l ih=>
  intro k x h i hi
  simp only[x8,List.mem_append]
  cases k with
  |zero=>simp at h;subst h;exact .inl hi
  |succ k=>simp at h;exact .inr (ih k x h i hi)
theorem aX9 {f:Nat→Nat}:∀ (l:List Value) (k:Nat),(R1 f l)[k]? =(l[k]?).map (P9 f):=by
 intro l
 induction l with
 |nil=>intro k;simp[R1]
 |cons x l ih=>intro k;cases k<;>simp[R1,ih]
mutual
theorem aS7 {n:Nat}:∀ (v:Value) (j:Nat),j ∈ r5 0 v→n≤j→j ∈ r5 n v
 | .pointer none,j,h,_=>by simp[r5,n5] at h
 | .pointer (some ⟨b,o,none⟩),j,h,_=>by simp[r5,n5] at h
 | .pointer (some ⟨b,o,some k⟩),j,h,hj=>by
  simp only[r5,n5] at h ⊢
  rw[if_pos (by simp)] at h
  simp at h;subst h
  rw[if_pos (by rw[Nat.ble_eq];exact hj)];simp
 | .slice none _ _,j,h,_=>by simp[r5,n5] at h
 | .slice (some ⟨b,o,none⟩) _ _,j,h,_=>by simp[r5,n5] at h
 | .slice (some ⟨b,o,some k⟩) _ _,j,h,hj=>by
  simp only[r5,n5] at h ⊢
  rw[if_pos (by simp)] at h
  simp at h;subst h
  rw[if_pos (by rw[Nat.ble_eq];exact hj)];simp
 | .func fn ⟨x⟩ ⟨y⟩,j,h,hj=>by
  simp only[r5,List.mem_append] at h ⊢
  exact h.imp (fun h=>kL x j h hj) (fun h=>kL y j h hj)
 | .iface t v,j,h,hj=>by simp only[r5] at h ⊢;exact aS7 v j h hj
 | .agg ⟨l⟩,j,h,hj=>by simp only[r5] at h ⊢;exact kL l j h hj
 | .tuple ⟨l⟩,j,h,hj=>by simp only[r5] at h ⊢;exact kL l j h hj
 | .bool _,j,h,_=>by simp[r5] at h
 | .int _ _,j,h,_=>by simp[r5] at h
 | .float _ _,j,h,_=>by simp[r5] at h
 | .complex _ _ _,j,h,hj=>by simp[r5] at h ⊢;omega
 | .string _,j,h,_=>by simp[r5] at h
 | .map _,j,h,_=>by simp[r5] at h
 | .chan none,j,h,_=>by simp[r5] at h
 | .chan (some d),j,h,hj=>by
  simp only[r5] at h ⊢
  rw[if_pos (by simp)] at h
  simp at h;subst h
  rw[if_pos (by rw[Nat.ble_eq];exact hj)];simp
 | .nilFunc,j,h,_=>by simp[r5] at h
 | .nilIface,j,h,_=>by simp[r5] at h
theorem kL {n:Nat}:∀ (l:List Value) (j:Nat),j ∈ x8 0 l→n≤j→j ∈ x8 n l
 | [],j,h,_=>by simp[x8] at h
 |v::r,j,h,hj=>by
  simp only[x8,List.mem_append] at h ⊢
  exact h.imp (fun h=>aS7 v j h hj) (fun h=>kL r j h hj)
end
mutual
theorem IT {w:VW} {H:E4} {n0:Nat}:∀ {v:V} {vI:Value},b7 w v vI→Cl H v→(∀ o ob,f8 H o=some ob→ob.none=false→∃ b,w.μ o=some b)→∀ i ∈ r5 n0 vI,w.F i∨∃ o ∈ Y1 v,w.μ o=some i
 | .sc x,vI,h,_,_,i,hi=>by rw[h.scv,V0 n0 x (by rw[← h.scv];exact h.scv▸h.ok)] at hi;cases hi
 | .sl s n l,vI,h,hc,_,i,hi=> .inl (bO9 (d:= .sl s n l) (by simpa only[b7] using h) (by simpa only[Cl] using hc) i hi)
 | .slk s n c l,vI,h,_,_,i,hi=>by
  simp only[b7] at h
  rcases h with ⟨_,_,⟨⟨b,o,sp⟩,rfl,k,_⟩|⟨_,_,_,_,rfl⟩⟩
  ·cases sp with
   |none=>simp[r5,n5] at hi
   |some sp=>
    simp only[r5,n5] at hi
    split at hi
    ·simp at hi;subst hi;exact .inl k
    ·cases hi
  ·simp[r5,n5] at hi
 | .dp l o,vI,h,_,_,i,hi=>by
  simp only[b7] at h
  obtain ⟨⟨b,k,sp⟩,rfl,hk,_⟩:=h
  cases sp with
  |none=>simp[y4,r5,n5] at hi
  |some sp=>
   simp only[y4,r5,n5] at hi
   split at hi
   ·simp at hi;subst hi;exact .inl hk
   ·cases hi
 | .ref o k n c,vI,h,hc,hm,i,hi=>by
  simp only[b7] at h
  obtain ⟨_,_,b',rfl,q⟩:=h
  simp only[r5,n5] at hi
  split at hi
  ·simp at hi;subst hi
   simp only[Cl] at hc
   obtain ⟨ob,e1,e2⟩:=hc
   obtain ⟨b,hb⟩:=hm o ob e1 e2
   exact .inr ⟨o,by simp[Y1],by rw[q b hb];exact hb⟩
  ·cases hi
 | .gr s o n,vI,h,hc,hm,i,hi=>by
  simp only[b7] at h
  rcases h with ⟨_,⟨_,rfl|⟨_,⟨b,o',sp⟩,c,rfl,k⟩⟩|⟨hn,b',rfl,q⟩⟩
  ·simp[r5,n5] at hi
  ·cases sp with
   |none=>simp[r5,n5] at hi
   |some sp=>
    simp only[r5,n5] at hi
    split at hi
    ·simp at hi;subst hi;exact .inl k
    ·cases hi
  ·simp only[r5,n5] at hi
   split at hi
   ·simp at hi;subst hi
    simp only[Cl] at hc
    obtain ⟨t,e,z,l,e1,e2⟩:=hc
    obtain ⟨b,hb⟩:=hm o _ e1 (N5 (fun e0=>hn (e2.2 e0)))
    exact .inr ⟨o,by simp[Y1],by rw[q b hb];exact hb⟩
   ·cases hi
 | .ptr o k,vI,h,hc,hm,i,hi=>by
  simp only[b7] at h
  obtain ⟨_,b',rfl,q⟩:=h
  simp only[r5,n5] at hi
  split at hi
  ·simp at hi;subst hi
   simp only[Cl] at hc
   obtain ⟨ob,e1,e2⟩:=hc
   obtain ⟨b,hb⟩:=hm o ob e1 e2
   exact .inr ⟨o,by simp[Y1],by rw[q b hb];exact hb⟩
  ·cases hi
 | .agg l,vI,h,hc,hm,i,hi=>by
  simp only[b7] at h
  obtain ⟨vs,rfl,h⟩:=h
  simp only[r5] at hi
  simp only[Cl] at hc
  simp only[Y1]
  exact dQ h hc hm i hi
 | .tup l,vI,h,hc,hm,i,hi=>by
  simp only[b7] at h
  obtain ⟨vs,rfl,h⟩:=h
  simp only[r5] at hi
  simp only[Cl] at hc
  simp only[Y1]
  exact dQ h hc hm i hi
 | .fn f a b,vI,h,hc,hm,i,hi=>by
  simp only[b7] at h
  obtain ⟨as,bs,rfl,h1,h2⟩:=h
  simp only[r5,List.mem_append] at hi
  simp only[Cl] at hc
  simp only[Y1,List.mem_append]
  rcases hi with hi|hi
  ·rcases dQ h1 hc.1 hm i hi with h|⟨o,ho,e⟩
   ·exact .inl h
   ·exact .inr ⟨o,.inl ho,e⟩
  ·rcases dQ h2 hc.2 hm i hi with h|⟨o,ho,e⟩
   ·exact .inl h
   ·exact .inr ⟨o,.inr ho,e⟩
 | .ifc t v,vI,h,hc,hm,i,hi=>by
  simp only[b7] at h
  obtain ⟨v',rfl,h⟩:=h
  simp only[r5] at hi
  simp only[Cl] at hc
  simp only[Y1]
  exact IT h hc hm i hi
 | .dead,vI,h,hc,hm,i,hi=>by simp only[Cl] at hc
 | .tok _,vI,h,hc,hm,i,hi=>by simp only[Cl] at hc
theorem dQ {w:VW} {H:E4} {n0:Nat}:∀ {l:List V} {vs:List Value},d8 w l vs→HB H l→(∀ o ob,f8 H o=some ob→ob.none=false→∃ b,w.μ o=some b)→∀ i ∈ x8 n0 vs,w.F i∨∃ o ∈ eI l,w.μ o=some i
 | [],vs,h,_,_,i,hi=>by simp only[d8] at h;subst h;simp[x8] at hi
 |v::r,vs,h,hc,hm,i,hi=>by
  simp only[d8] at h
  obtain ⟨u,us,rfl,h1,h2⟩:=h
  simp only[x8,List.mem_append] at hi
  simp only[HB] at hc
  simp only[eI,List.mem_append]
  rcases hi with hi|hi
  ·rcases IT h1 hc.1 hm i hi with h|⟨o,ho,e⟩
   ·exact .inl h
   ·exact .inr ⟨o,.inl ho,e⟩
  ·rcases dQ h2 hc.2 hm i hi with h|⟨o,ho,e⟩
   ·exact .inl h
   ·exact .inr ⟨o,.inr ho,e⟩
end
mutual
theorem JO {w:VW} {H:E4} {n0:Nat}:∀ {v:V} {vI:Value},b7 w v vI→Cl H v→(∀ o b,w.μ o=some b→n0≤b∧∃ ob,f8 H o=some ob∧ob.none=false)→∀ o ∈ Y1 v,∀ b,w.μ o=some b→b ∈ r5 n0 vI
 | .sc x,vI,h,_,_,o,ho,b,hb=>by simp[Y1] at ho
 | .sl s n l,vI,h,_,_,o,ho,b,hb=>by simp[Y1] at ho
 | .slk s n c l,vI,h,_,_,o,ho,b,hb=>by simp[Y1] at ho
 | .dp l o',vI,h,_,_,o,ho,b,hb=>by simp[Y1] at ho
 | .ref o' k n c,vI,h,hc,hm,o,ho,b,hb=>by
  simp only[Y1,List.mem_singleton] at ho
  subst ho
  simp only[b7] at h
  obtain ⟨_,_,b',rfl,q⟩:=h
  have:=q b hb
  subst this
  simp only[r5,n5]
  rw[if_pos (by rw[Nat.ble_eq];exact (hm o b' hb).1)]
  simp
 | .gr s o' n,vI,h,hc,hm,o,ho,b,hb=>by
  simp only[Y1,List.mem_singleton] at ho
  subst ho
  simp only[Cl] at hc
  obtain ⟨t,e,z,l,e1,e2⟩:=hc
  obtain ⟨h1,ob,h2,h3⟩:=hm o b hb
  rw[e1] at h2
  cases h2
  have hl:l ≠ []:=fun e0=>by subst e0;cases h3
  simp only[b7] at h
  rcases h with ⟨_,⟨hn,_⟩|⟨hn,b',rfl,q⟩⟩
  ·exact absurd (e2.1 hn) hl
  ·have:=q b hb
   subst this
   simp only[r5,n5]
   rw[if_pos (by rw[Nat.ble_eq];exact h1)]
   simp
 | .ptr o' k,vI,h,hc,hm,o,ho,b,hb=>by
  simp only[Y1,List.mem_singleton] at ho
  subst ho
  simp only[b7] at h
  obtain ⟨_,b',rfl,q⟩:=h
  have:=q b hb
  subst this
  simp only[r5,n5]
  rw[if_pos (by rw[Nat.ble_eq];exact (hm o b' hb).1)]
  simp
 | .agg l,vI,h,hc,hm,o,ho,b,hb=>by
  simp only[b7] at h
  obtain ⟨vs,rfl,h⟩:=h
  simp only[r5]
  simp only[Cl] at hc
  simp only[Y1] at ho
  exact eA h hc hm o ho b hb
 | .tup l,vI,h,hc,hm,o,ho,b,hb=>by
  simp only[b7] at h
  obtain ⟨vs,rfl,h⟩:=h
  simp only[r5]
  simp only[Cl] at hc
  simp only[Y1] at ho
  exact eA h hc hm o ho b hb
 | .fn f x y,vI,h,hc,hm,o,ho,b,hb=>by
  simp only[b7] at h
  obtain ⟨as,bs,rfl,h1,h2⟩:=h
  simp only[r5,List.mem_append]
  simp only[Cl] at hc
  simp only[Y1,List.mem_append] at ho
  exact ho.imp (fun ho=>eA h1 hc.1 hm o ho b hb) (fun ho=>eA h2 hc.2 hm o ho b hb)
 | .ifc t v,vI,h,hc,hm,o,ho,b,hb=>by
  simp only[b7] at h
  obtain ⟨v',rfl,h⟩:=h
  simp only[r5]
  simp only[Cl] at hc
  simp only[Y1] at ho
  exact JO h hc hm o ho b hb
 | .dead,vI,h,hc,hm,o,ho,b,hb=>by simp only[Cl] at hc
 | .tok _,vI,h,hc,hm,o,ho,b,hb=>by simp only[Cl] at hc
theorem eA {w:VW} {H:E4} {n0:Nat}:∀ {l:List V} {vs:List Value},d8 w l vs→HB H l→(∀ o b,w.μ o=some b→n0≤b∧∃ ob,f8 H o=some ob∧ob.none=false)→∀ o ∈ eI l,∀ b,w.μ o=some b→b ∈ x8 n0 vs
 | [],vs,h,_,_,o,ho,b,hb=>by simp[eI] at ho
 |v::r,vs,h,hc,hm,o,ho,b,hb=>by
  simp only[d8] at h
  obtain ⟨u,us,rfl,h1,h2⟩:=h
  simp only[x8,List.mem_append]
  simp only[HB] at hc
  simp only[eI,List.mem_append] at ho
  exact ho.imp (fun ho=>JO h1 hc.1 hm o ho b hb) (fun ho=>eA h2 hc.2 hm o ho b hb)
end
theorem HJ {E:E2} {h:j9} {a:Addr}:m9 E h a=match a.spot with|none=>E.old a.block a.off|some 0=>(d9 h a.block).bind fun b=>A5 b.cells a.off|some (_+1)=>none:=rfl
def eO (E:E2):Prop:=∀ b o v,E.old b o=some v→r5 0 v= []∨∃ k x y,v= .complex k x y
structure GI (E:E2) (n0:Nat) (h0 hf:j9) (F0 F:Nat→Prop) (ord:List Nat) (bs:List u6):Prop where
 old:eO E
 low:∀ b,b<n0→d9 hf b=d9 h0 b
 f0:∀ b,F0 b→b<n0∧∃ blk,d9 h0 b=some blk∧∀ n,∀ i ∈ x8 n blk.cells,F0 i
 ff:∀ b,F b→b<n0→F0 b
 fc:∀ b,F b→∃ blk,d9 hf b=some blk∧∀ n,∀ i ∈ x8 n blk.cells,F i
 nd:ord.Nodup
 oo:∀ i ∈ ord,n0≤i∧∃ b,d9 hf i=some b∧∀ j ∈ x8 n0 b.cells,j ∈ ord
 pk:aK n0 hf ord ord=some bs
section
variable {E:E2} {n0:Nat} {h0 hf:j9} {F0 F:Nat→Prop} {ord:List Nat} {bs:List u6} {μ:Nat→Option Nat} {nx:Nat}
def F2 (n0:Nat) (F:Nat→Prop) (ord:List Nat) (b:Nat):Prop:=(b<n0∧F b)∨∃ i ∈ ord,F i∧b=y5 n0 ord i
def mu2 (n0:Nat) (ord:List Nat) (μ:Nat→Option Nat) (o:Nat):Option Nat:=(μ o).bind fun b=>if l7 b ord then some (y5 n0 ord b) else none
theorem X3 {i:Nat} (h:i<n0):y5 n0 ord i=i:=by unfold y5;rw[if_pos (by rw[Nat.blt_eq];exact h)]
theorem yU {i:Nat} (h:n0≤i):y5 n0 ord i=n0+I4 i ord:=by unfold y5;rw[if_neg (by rw[Nat.blt_eq];omega)]
theorem GI.inj (g:GI E n0 h0 hf F0 F ord bs) {i j:Nat} (hi:i ∈ ord) (hj:j ∈ ord) (e:y5 n0 ord i=y5 n0 ord j):i=j:=by
 rw[yU (g.oo i hi).1,yU (g.oo j hj).1] at e
 obtain ⟨_,k1⟩:=bX ord i hi
 obtain ⟨_,k2⟩:=bX ord j hj
 rw[show I4 i ord=I4 j ord by omega] at k1
 rw[k1] at k2
 exact Option.some.inj k2
theorem GI.get (g:GI E n0 h0 hf F0 F ord bs) {i:Nat} (hi:i ∈ ord):∃ b,d9 hf i=some b∧d9 (x4 h0 n0 bs) (y5 n0 ord i)=some {b with cells:=R1 (y5 n0 ord) b.cells}∧y5 n0 ord i<n0+bs.length∧n0≤y5 n0 ord i:=by
 obtain ⟨k1,k2⟩:=bX ord i hi
 obtain ⟨p1,p2⟩:=jH ord g.pk
 obtain ⟨b,b1,b2⟩:=p2 _ i k2
 rw[yU (g.oo i hi).1]
 refine ⟨b,b1,?_,by omega,by omega⟩
 rw[w8,if_pos (by omega),show n0+I4 i ord - n0=I4 i ord by omega]
 exact b2
theorem GI.lowget (g:GI E n0 h0 hf F0 F ord bs) {b:Nat} (h:b<n0):d9 (x4 h0 n0 bs) b=d9 h0 b:=by
 rw[w8,if_neg (by omega)]
abbrev gw (E:E2) (hf:j9) (F:Nat→Prop) (μ:Nat→Option Nat) (nx:Nat):VW:=⟨m9 E hf,F,μ,nx⟩
theorem QA {f:Nat→Nat} {v:Value} (h:r5 0 v= []):P9 f v=v:=jK (n0:=0) (fun i hi=>by omega) v h
def IdO (n0:Nat) (ord:List Nat) (v:Value):Prop:=(∀ i ∈ r5 n0 v,i ∈ ord)∨∃ k x y,v= .complex k x y
theorem GI.cell (g:GI E n0 h0 hf F0 F ord bs) {a:Addr} {v:Value} (hi:a.spot=none∨F a.block) (ha:a.spot=none∨a.block<n0∨a.block ∈ ord) (h:m9 E hf a=some v):
  m9 E (x4 h0 n0 bs) ⟨if a.spot.isSome then y5 n0 ord a.block else a.block,a.off,a.spot⟩=some (P9 (y5 n0 ord) v)∧IdO n0 ord v:=by
 obtain ⟨b,o,sp⟩:=a
 cases sp with
 |none=>
  simp only[m9] at h ⊢
  rcases g.old b o v h with h1|⟨k,x,y,rfl⟩
  ·rw[QA h1]
   exact ⟨h,.inl fun i hi=>by rw[rI v h1 n0] at hi;cases hi⟩
  ·exact ⟨h,.inr ⟨k,x,y,rfl⟩⟩
 |some k=>
  have hF:F b:=by simpa using hi
  obtain rfl:k=0:=by
   cases k with
   |zero=>rfl
   |succ k=>simp[m9] at h
  simp only[m9,Option.isSome_some,if_true] at h ⊢
  have ha:b<n0∨b ∈ ord:=by simpa using ha
  rcases ha with hb|hb
  ·rw[X3 hb,g.lowget hb]
   rw[g.low b hb] at h
   obtain ⟨_,blk,e1,e2⟩:=g.f0 b (g.ff b hF hb)
   rw[e1] at h ⊢
   simp only[Option.bind_some,x6] at h ⊢
   have hv:r5 n0 v= []:=by
    cases hids:r5 n0 v with
    |nil=>rfl
    |cons i r=>
     have h1:i ∈ r5 n0 v:=by rw[hids];simp
     have h2:=(g.f0 i (e2 n0 i (NV _ _ _ h i h1))).1
     have h3:=rJ v i h1
     omega
   rw[jK (fun i hi=>X3 hi) v hv]
   exact ⟨h,.inl fun i hi=>by rw[hv] at hi;cases hi⟩
  ·obtain ⟨blk,e1,e2,_⟩:=g.get hb
   rw[e2]
   rw[e1] at h
   simp only[Option.bind_some,x6] at h ⊢
   refine ⟨by rw[aX9,h];rfl,.inl fun i hi=>?_⟩
   obtain ⟨_,blk',e1',e2'⟩:=g.oo b hb
   rw[e1] at e1'
   cases e1'
   exact e2' i (NV _ _ _ h i hi)
abbrev JN (n0:Nat) (ord:List Nat) (a:Addr):Addr:=⟨if a.spot.isSome then y5 n0 ord a.block else a.block,a.off,a.spot⟩
theorem jY (a:Addr):G4 (y5 n0 ord) (some a)=some (JN n0 ord a):=by
 obtain ⟨b,o,sp⟩:=a
 cases sp<;>rfl
theorem aX7 (a:Addr) (k:Nat):JN n0 ord (y4 a k)=y4 (JN n0 ord a) k:=rfl
theorem aS8 {w:VW} {a:Addr} (h:w.inF a):a.spot=none∨w.F a.block:=by
 unfold VW.inF at h
 split at h
 ·rename_i e;exact .inl e
 ·exact .inr h
theorem GI.inF2 (g:GI E n0 h0 hf F0 F ord bs) {a:Addr} (h:(gw E hf F μ nx).inF a) (ha:a.spot=none∨a.block<n0∨a.block ∈ ord):(gw E (x4 h0 n0 bs) (F2 n0 F ord) (mu2 n0 ord μ) nx).inF (JN n0 ord a):=by
 obtain ⟨b,o,sp⟩:=a
 cases sp with
 |none=>trivial
 |some k=>
  have hF:F b:=h
  have ha:b<n0∨b ∈ ord:=by simpa using ha
  show F2 n0 F ord (y5 n0 ord b)
  rcases ha with hb|hb
  ·rw[X3 hb];exact .inl ⟨hb,hF⟩
  ·exact .inr ⟨b,hb,hF,rfl⟩
theorem oS {a:Addr} {v:Value} (hv:(∃ n c,v= .slice (some a) n c)∨v= .pointer (some a)) (h:IdO n0 ord v):a.spot=none∨a.block<n0∨a.block ∈ ord:=by
 obtain ⟨b,o,sp⟩:=a
 cases sp with
 |none=>exact .inl rfl
 |some k=>
  right
  rcases Nat.lt_or_ge b n0 with hb|hb
  ·exact .inl hb
  ·right
   rcases hv with ⟨n,c,rfl⟩|rfl
   ·rcases h with h|⟨_,_,_,e⟩
    ·exact h b (by simp only[r5,n5];rw[if_pos (by rw[Nat.ble_eq];exact hb)];simp)
    ·cases e
   ·rcases h with h|⟨_,_,_,e⟩
    ·exact h b (by simp only[r5,n5];rw[if_pos (by rw[Nat.ble_eq];exact hb)];simp)
    ·cases e
mutual
theorem GI.rD (g:GI E n0 h0 hf F0 F ord bs):∀ {d:D} {v:Value},u7 (gw E hf F μ nx) d v→IdO n0 ord v→u7 (gw E (x4 h0 n0 bs) (F2 n0 F ord) (mu2 n0 ord μ) nx) d (P9 (y5 n0 ord) v)
 | .sc x,v,h,_=>by
  simp only[u7] at h ⊢
  obtain ⟨rfl,h⟩:=h
  exact ⟨jK (fun i hi=>X3 hi) v (V0 n0 v h),h⟩
 | .sl s n l,v,h,hi=>by
  simp only[u7] at h ⊢
  rcases h with ⟨a,c,rfl,k,kc,kA,ks⟩|⟨h1,h2,h3,h4⟩
  ·left
   have ha:=oS (.inl ⟨n,c,rfl⟩) hi
   refine ⟨JN n0 ord a,c,?_,g.inF2 k ha,kc,g.rA k ha kA,ks⟩
   simp only[P9,jY]
  ·right
   refine ⟨h1,h2,h3,?_⟩
   rcases h4 with rfl|⟨hs,a,b,e,rfl⟩
   ·exact .inl rfl
   ·exact .inr ⟨hs,a,b,e,rfl⟩
theorem GI.rA (g:GI E n0 h0 hf F0 F ord bs):∀ {l:List D} {a:Addr},(gw E hf F μ nx).inF a→(a.spot=none∨a.block<n0∨a.block ∈ ord)→v7 (gw E hf F μ nx) l a→v7 (gw E (x4 h0 n0 bs) (F2 n0 F ord) (mu2 n0 ord μ) nx) l (JN n0 ord a)
 | [],a,_,_,_=>by simp only[v7]
 |d::r,a,i,ha,h=>by
  simp only[v7] at h ⊢
  obtain ⟨⟨v,h1,h2⟩,h3⟩:=h
  obtain ⟨c1,c2⟩:=g.cell (aS8 i) ha h1
  exact ⟨⟨_,c1,g.rD h2 c2⟩,g.rA (a:=y4 a 1) (kM i) ha h3⟩
end
theorem GI.rDL (g:GI E n0 h0 hf F0 F ord bs):∀ {l:List D} {vs:List Value},j6 (gw E hf F μ nx) l vs→(∀ i ∈ x8 n0 vs,i ∈ ord)→j6 (gw E (x4 h0 n0 bs) (F2 n0 F ord) (mu2 n0 ord μ) nx) l (R1 (y5 n0 ord) vs)
 | [],vs,h,_=>by simp only[j6] at h ⊢;subst h;rfl
 |d::r,vs,h,hi=>by
  simp only[j6] at h ⊢
  obtain ⟨v,vs',rfl,h1,h2⟩:=h
  simp only[x8,List.mem_append] at hi
  exact ⟨_,_,rfl,g.rD h1 (.inl fun i h=>hi i (.inl h)),g.rDL h2 fun i h=>hi i (.inr h)⟩
theorem Q8 {o b:Nat} (h:mu2 n0 ord μ o=some b):∃ i,μ o=some i∧i ∈ ord∧b=y5 n0 ord i:=by
 simp only[mu2,Option.bind_eq_some_iff] at h
 obtain ⟨i,h1,h2⟩:=h
 split at h2
 ·rename_i he;cases h2;exact ⟨i,h1,(j7 _ _).1 he,rfl⟩
 ·cases h2
mutual
theorem GI.rV (g:GI E n0 h0 hf F0 F ord bs):∀ {d:V} {v:Value},b7 (gw E hf F μ nx) d v→(∀ i ∈ r5 n0 v,i ∈ ord)→b7 (gw E (x4 h0 n0 bs) (F2 n0 F ord) (mu2 n0 ord μ) nx) d (P9 (y5 n0 ord) v)
 | .sc x,v,h,_=>by
  simp only[b7] at h ⊢
  obtain ⟨rfl,h⟩:=h
  exact ⟨jK (fun i hi=>X3 hi) v (V0 n0 v h),h⟩
 | .sl s n l,v,h,hi=>by simp only[b7] at h ⊢;exact g.rD h (.inl hi)
 | .slk s n c l,v,h,hi=>by
  simp only[b7] at h ⊢
  refine ⟨h.1,h.2.1,?_⟩
  rcases h.2.2 with ⟨a,rfl,k,kA⟩|⟨h1,h2,h3,h4,rfl⟩
  ·left
   have ha:=oS (.inl ⟨n,c,rfl⟩) (.inl hi)
   exact ⟨JN n0 ord a,by simp only[P9,jY],g.inF2 k ha,g.rA k ha kA⟩
  ·exact .inr ⟨h1,h2,h3,h4,rfl⟩
 | .dp l o,v,h,hi=>by
  simp only[b7] at h ⊢
  obtain ⟨a,rfl,k,kA⟩:=h
  have ha:a.spot=none∨a.block<n0∨a.block ∈ ord:=oS (a:=y4 a o) (.inr rfl) (.inl hi)
  exact ⟨JN n0 ord a,by simp only[P9,jY,aX7],g.inF2 k ha,g.rA k ha kA⟩
 | .ref o k n c,v,h,hi=>by
  simp only[b7] at h ⊢
  obtain ⟨h1,h2,b',rfl,q⟩:=h
  refine ⟨h1,h2,y5 n0 ord b',by simp only[P9,G4],fun b hb=>?_⟩
  obtain ⟨i,e1,e2,rfl⟩:=Q8 hb
  rw[q i e1]
 | .gr s o n,v,h,hi=>by
  simp only[b7] at h ⊢
  refine ⟨h.1,?_⟩
  rcases h.2 with ⟨h1,rfl|⟨h2,a,c,rfl,k⟩⟩|⟨h1,b',rfl,q⟩
  ·exact .inl ⟨h1,.inl rfl⟩
  ·have ha:=oS (.inl ⟨0,c,rfl⟩) (.inl hi)
   exact .inl ⟨h1,.inr ⟨h2,JN n0 ord a,c,by simp only[P9,jY],g.inF2 k ha⟩⟩
  ·refine .inr ⟨h1,y5 n0 ord b',by simp only[P9,G4],fun b hb=>?_⟩
   obtain ⟨i,e1,e2,rfl⟩:=Q8 hb
   rw[q i e1]
 | .ptr o k,v,h,hi=>by
  simp only[b7] at h ⊢
  obtain ⟨h1,b',rfl,q⟩:=h
  refine ⟨h1,y5 n0 ord b',by simp only[P9,G4],fun b hb=>?_⟩
  obtain ⟨i,e1,e2,rfl⟩:=Q8 hb
  rw[q i e1]
 | .agg l,v,h,hi=>by
  simp only[b7] at h ⊢
  obtain ⟨vs,rfl,h⟩:=h
  simp only[r5] at hi
  exact ⟨_,by simp only[P9],g.rVL h hi⟩
 | .tup l,v,h,hi=>by
  simp only[b7] at h ⊢
  obtain ⟨vs,rfl,h⟩:=h
  simp only[r5] at hi
  exact ⟨_,by simp only[P9],g.rVL h hi⟩
 | .fn f a b,v,h,hi=>by
  simp only[b7] at h ⊢
  obtain ⟨as,bs',rfl,h1,h2⟩:=h
  simp only[r5,List.mem_append] at hi
  exact ⟨_,_,by simp only[P9],g.rVL h1 fun i h=>hi i (.inl h),g.rVL h2 fun i h=>hi i (.inr h)⟩
 | .ifc t u,v,h,hi=>by
  simp only[b7] at h ⊢
  obtain ⟨v',rfl,h⟩:=h
  simp only[r5] at hi
  exact ⟨_,by simp only[P9],g.rV h hi⟩
 | .dead,v,h,hi=>by simp only[b7]
 | .tok o,v,h,hi=>by
  simp only[b7] at h ⊢
  obtain ⟨h1,b',rfl,q⟩:=h
  refine ⟨h1,y5 n0 ord b',by simp only[P9],fun b hb=>?_⟩
  obtain ⟨i,e1,e2,rfl⟩:=Q8 hb
  rw[q i e1]
theorem GI.rVL (g:GI E n0 h0 hf F0 F ord bs):∀ {l:List V} {vs:List Value},d8 (gw E hf F μ nx) l vs→(∀ i ∈ x8 n0 vs,i ∈ ord)→d8 (gw E (x4 h0 n0 bs) (F2 n0 F ord) (mu2 n0 ord μ) nx) l (R1 (y5 n0 ord) vs)
 | [],vs,h,_=>by simp only[d8] at h ⊢;subst h;rfl
 |d::r,vs,h,hi=>by
  simp only[d8] at h ⊢
  obtain ⟨v,vs',rfl,h1,h2⟩:=h
  simp only[x8,List.mem_append] at hi
  exact ⟨_,_,rfl,g.rV h1 fun i h=>hi i (.inl h),g.rVL h2 fun i h=>hi i (.inr h)⟩
end
theorem cD5 {C:C5} {st:l8} {sf:St} {μ:Nat→Option Nat} {F F0:Nat→Prop} {h0:j9} {v:V} {vI:Value} (h:SR C st sf μ F) (hU:∀ b,b<C.n0→C.U b) (hh:C.h0=h0) (hro:st.ro=0) (hp:sf.prot=C.n0) (hold:eO C.E)
  (hF0:∀ b,F0 b→b<C.n0∧∃ blk,d9 h0 b=some blk∧∀ n,∀ i ∈ x8 n blk.cells,F0 i) (hFF:∀ b,F b→F0 b∨C.n0≤b) (hle:∀ b,F0 b→F b) (hb0:∀ b blk,d9 h0 b=some blk→b<C.n0)
  (hv:b7 (u5 C st sf μ F) v vI) (hR:bM st.own v):
  ∃ v2 bs μ2 G,gc C.n0 sf.heap vI=some (v2,bs)∧SR C st ⟨x4 h0 C.n0 bs,C.n0+bs.length,C.n0⟩ μ2 G∧b7 (u5 C st ⟨x4 h0 C.n0 bs,C.n0+bs.length,C.n0⟩ μ2 G) v v2∧(∀ b,G b→F0 b∨C.n0≤b)∧(∀ b,F0 b→G b)∧(r5 C.n0 vI= []→bs= []):=by
 have hmu:∀ o b,μ o=some b→C.n0≤b∧∃ ob,f8 st.own o=some ob∧ob.none=false:=fun o b e=>⟨by rw[← hp];exact h.pb o b e (by rw[hro];exact Nat.zero_le _),(h.dom o b e).2.2⟩
 have hlive:∀ o ob,f8 st.own o=some ob→ob.none=false→∃ b,μ o=some b:=fun o ob e hn=>by
  obtain ⟨b,_,m1,_⟩:=h.obj o ob e hn
  exact ⟨b,m1⟩
 have hRc:∀ b,(F b∨∃ o,μ o=some b)→C.n0≤b→∃ blk,d9 sf.heap b=some blk∧∀ i ∈ x8 C.n0 blk.cells,F i∨∃ o,μ o=some i:=by
  rintro b (hb|⟨o,e⟩) _
  ·obtain ⟨blk,c1,c2⟩:=h.cl b hb
   exact ⟨blk,c1,fun i hi=> .inl (c2 _ i hi)⟩
  ·obtain ⟨_,ob,e1,e2⟩:=hmu o b e
   obtain ⟨b',blk,m1,m2,m3⟩:=h.obj o ob e1 e2
   rw[e] at m1;cases m1
   refine ⟨blk,m2,fun i hi=>?_⟩
   cases ob with
   |box t e' l=>
    rcases dQ m3.2.2.2 (hR.box o t e' l e1) hlive i hi with hh|⟨o',_,e'⟩
    ·exact .inl hh
    ·exact .inr ⟨o',e'⟩
   |row t e' g' z l=>exact .inl (wX m3.2.2.2 (h.own o _ e1).2 i hi)
   |gro t e' z l=>exact .inl (wX m3.2.2.2 (h.own o _ e1).2 i hi)
 have hroot:∀ i ∈ r5 C.n0 vI,C.n0≤i∧(F i∨∃ o,μ o=some i):=fun i hi=>by
  refine ⟨rJ vI i hi,?_⟩
  rcases IT hv hR.cl hlive i hi with hh|⟨o,_,e⟩
  ·exact .inl hh
  ·exact .inr ⟨o,e⟩
 have hord:∃ ord bs,ord.Nodup∧(∀ i ∈ ord,C.n0≤i∧∃ b,d9 sf.heap i=some b∧∀ j ∈ x8 C.n0 b.cells,j ∈ ord)∧aK C.n0 sf.heap ord ord=some bs∧(∀ i ∈ r5 C.n0 vI,i ∈ ord)∧gc C.n0 sf.heap vI=some (P9 (y5 C.n0 ord) vI,bs)∧(r5 C.n0 vI= []→bs= []):=by
  cases hids:r5 C.n0 vI with
  |nil=>
   refine ⟨[],[],List.nodup_nil,(fun i hi=>by cases hi),rfl,(fun i hi=>by cases hi),?_,fun _=>rfl⟩
   unfold gc
   rw[hids,jK (fun i hi=>X3 hi) vI hids]
  |cons x r=>
   obtain ⟨d,hd⟩:=JL hRc (r5 C.n0 vI) hroot
   obtain ⟨f,hf⟩:=tS hd
   obtain ⟨d1,_,d3,d4⟩:=fQ C.n0 sf.heap f _ [] d hf (fun i hi=>rJ vI i hi) List.nodup_nil
   have d5:∀ i ∈ d.reverse,C.n0≤i∧∃ b,d9 sf.heap i=some b∧∀ j ∈ x8 C.n0 b.cells,j ∈ d.reverse:=fun i hi=>by
    rcases d4 i (by simpa using hi) with h|⟨h5,b,h6,h7⟩
    ·cases h
    ·exact ⟨h5,b,h6,fun j hj=>by simpa using h7 j hj⟩
   obtain ⟨bs,hbs⟩:=pG (n0:=C.n0) (ord:=d.reverse) d.reverse (fun i hi=>by obtain ⟨_,b,hb,_⟩:=d5 i hi;exact ⟨b,hb⟩)
   refine ⟨d.reverse,bs,by unfold List.Nodup at d1 ⊢;rw[List.pairwise_reverse];exact d1.imp Ne.symm,d5,hbs,fun i hi=>by simpa using d3 i (by rw[hids];exact hi),?_,fun e=>by cases e⟩
   unfold gc
   rw[hids]
   rw[hids] at hd
   simp only[hd,Option.bind_some,hbs,Option.map_some]
 obtain ⟨ord,bs,o1,o2,o3,o4,o5,o6⟩:=hord
 have g:GI C.E C.n0 h0 sf.heap F0 F ord bs:=⟨hold,fun b hb=>by have:=(h.un b (hU b hb)).2;rw[hh] at this;exact this,hF0,fun b hb hlt=>(hFF b hb).resolve_right (by omega),h.cl,o1,o2,o3⟩
 have hreach:∀ o,VR st.own v o→∀ b,μ o=some b→b ∈ ord:=by
  intro o hvr
  induction hvr with
  |root o ho=>exact fun b hb=>o4 b (JO hv hR.cl hmu o ho b hb)
  |box o o1' t e l _ hbox ho ih=>
   intro b hb
   obtain ⟨b1,blk,m1,m2,m3⟩:=h.obj o1' _ hbox rfl
   have hb1:=ih b1 m1
   obtain ⟨_,blk',e1,e2⟩:=o2 b1 hb1
   rw[m2] at e1
   cases e1
   exact e2 b (eA m3.2.2.2 (hR.box o1' t e l hbox) hmu o ho b hb)
 have hin:∀ o b,μ o=some b→b ∈ ord:=fun o b e=>by
  obtain ⟨_,ob,e1,e2⟩:=hmu o b e
  exact hreach o (hR.all o ob e1 e2) b e
 have hmu2:∀ o b,μ o=some b→mu2 C.n0 ord μ o=some (y5 C.n0 ord b):=fun o b e=>by
  simp only[mu2,e,Option.bind_some]
  rw[if_pos ((j7 _ _).2 (hin o b e))]
 have hF2:∀ b,b ∈ ord→(F2 C.n0 F ord (y5 C.n0 ord b)↔F b):=fun b hb=>by
  constructor
  ·rintro (⟨h1,_⟩|⟨i,hi,h1,h2⟩)
   ·have:=(g.get hb);obtain ⟨_,_,_,_,h3⟩:=this;omega
   ·rw[g.inj hb hi h2];exact h1
  ·exact fun hf=> .inr ⟨b,hb,hf,rfl⟩
 refine ⟨P9 (y5 C.n0 ord) vI,bs,mu2 C.n0 ord μ,F2 C.n0 F ord,o5,⟨?_,?_,?_,?_,?_,?_,?_,?_,?_,h.own,?_,?_,?_⟩,g.rV hv o4,?_,?_,o6⟩
 ·intro o ob e hn
  obtain ⟨b,blk,m1,m2,m3⟩:=h.obj o ob e hn
  have hb:=hin o b m1
  obtain ⟨blk',e1,e2,_⟩:=g.get hb
  rw[m2] at e1
  cases e1
  refine ⟨_,_,hmu2 o b m1,e2,?_⟩
  obtain ⟨_,blk2,e1',e2'⟩:=o2 b hb
  rw[m2] at e1'
  cases e1'
  cases ob with
  |box t e' l=>exact ⟨m3.1,m3.2.1,m3.2.2.1,g.rVL m3.2.2.2 e2'⟩
  |row t e' g' z l=>exact ⟨m3.1,m3.2.1,m3.2.2.1,g.rDL m3.2.2.2 e2'⟩
  |gro t e' z l=>exact ⟨m3.1,m3.2.1,m3.2.2.1,g.rDL m3.2.2.2 e2'⟩
 ·intro o ob b e e2 hz
  obtain ⟨i,e3,e4,rfl⟩:=Q8 e2
  obtain ⟨_,_,_,_,h4⟩:=g.get e4
  refine ⟨fun hf=>(h.wr o ob i e e3 hz).1 ((hF2 i e4).1 hf),fun _=>⟨h4,fun hu=>by have:=(h.un _ hu).1;omega⟩⟩
 ·intro o ob b e e2 hz
  obtain ⟨i,e3,e4,rfl⟩:=Q8 e2
  exact (hF2 i e4).2 (h.fz o ob i e e3 hz)
 ·intro o o' b e e'
  obtain ⟨i,e3,e4,rfl⟩:=Q8 e
  obtain ⟨j,e5,e6,e7⟩:=Q8 e'
  rw[← g.inj e4 e6 e7] at e5
  exact h.inj o o' i e3 e5
 ·intro o b e
  obtain ⟨i,e3,e4,rfl⟩:=Q8 e
  obtain ⟨_,_,_,h3,_⟩:=g.get e4
  exact ⟨h3,(h.dom o i e3).2⟩
 ·rintro b (⟨h1,h2⟩|⟨i,hi,h1,rfl⟩)
  ·obtain ⟨_,blk,e1,_⟩:=hF0 b (g.ff b h2 h1)
   exact ⟨by simp only;omega,blk,by simp only;rw[g.lowget h1];exact e1⟩
  ·obtain ⟨_,_,e2,h3,_⟩:=g.get hi
   exact ⟨h3,_,e2⟩
 ·rintro b (⟨h1,h2⟩|⟨i,hi,h1,rfl⟩)
  ·obtain ⟨_,blk,e1,e2⟩:=hF0 b (g.ff b h2 h1)
   refine ⟨blk,by simp only;rw[g.lowget h1];exact e1,fun n j hj=> .inl ⟨(hF0 j (e2 n j hj)).1,hle j (e2 n j hj)⟩⟩
  ·obtain ⟨blk,e1,e2,_⟩:=g.get hi
   obtain ⟨blk',c1,c2⟩:=h.cl i h1
   rw[e1] at c1
   cases c1
   refine ⟨_,e2,fun n j hj=>?_⟩
   rcases dP _ n _ j hj with ⟨k,hk,rfl⟩|⟨_,hm⟩
   ·have hFk:=c2 0 k hk
    rcases Nat.lt_or_ge k C.n0 with hlt|hge
    ·rw[X3 hlt];exact .inl ⟨hlt,hFk⟩
    ·have hkn:k ∈ x8 C.n0 blk.cells:=kL _ k hk hge
     obtain ⟨_,blk2,d1,d2⟩:=o2 i hi
     rw[e1] at d1
     cases d1
     exact .inr ⟨k,d2 k hkn,hFk,rfl⟩
   ·have:=(h.lt _ (c2 sf.next _ (hm sf.next))).1
    omega
 ·intro b hb
  obtain ⟨u1,u2⟩:=h.un b hb
  exact ⟨u1,by simp only;rw[g.lowget u1,hh]⟩
 ·simp only;omega
 ·intro b blk hb
  simp only at hb ⊢
  rw[w8] at hb
  split at hb
  ·omega
  ·have:=hb0 b blk hb;omega
 ·simp only;omega
 ·intro o b e _
  obtain ⟨i,e3,e4,rfl⟩:=Q8 e
  obtain ⟨_,_,_,_,h4⟩:=g.get e4
  exact h4
 ·rintro b (⟨h1,h2⟩|⟨i,hi,h1,rfl⟩)
  ·exact hFF b h2
  ·obtain ⟨_,_,_,_,h4⟩:=g.get hi
   exact .inr h4
 ·exact fun b hb=> .inl ⟨(hF0 b hb).1,hle b hb⟩
end
mutual
def w7:V→Bool
 | .sc _=>true
 | .agg l=>oJ l
 | .tup l=>oJ l
 | .ifc _ v=>w7 v
 |_=>false
def oJ:List V→Bool
 | []=>true
 |v::r=>w7 v && oJ r
end
mutual
theorem oK {w:VW}:∀ {v:V} {vI:Value},b7 w v vI→w7 v=true→(∀ n,r5 n vI= [])∧∀ w',b7 w' v vI
 | .sc x,vI,h,_=>by
  have hx:=h.ok
  have:=h.scv
  subst this
  exact ⟨fun n=>V0 n vI hx,fun w'=> .mksc hx⟩
 | .agg l,vI,h,hf=>by
  simp only[b7] at h
  obtain ⟨vs,rfl,h⟩:=h
  obtain ⟨a1,a2⟩:=wI h (by simpa only[w7] using hf)
  exact ⟨fun n=>by simp only[r5];exact a1 n,fun w'=>by simp only[b7];exact ⟨vs,rfl,a2 w'⟩⟩
 | .tup l,vI,h,hf=>by
  simp only[b7] at h
  obtain ⟨vs,rfl,h⟩:=h
  obtain ⟨a1,a2⟩:=wI h (by simpa only[w7] using hf)
  exact ⟨fun n=>by simp only[r5];exact a1 n,fun w'=>by simp only[b7];exact ⟨vs,rfl,a2 w'⟩⟩
 | .sl _ _ _,vI,h,hf=>by simp[w7] at hf
 | .slk _ _ _ _,vI,h,hf=>by simp[w7] at hf
 | .dp _ _,vI,h,hf=>by simp[w7] at hf
 | .ref _ _ _ _,vI,h,hf=>by simp[w7] at hf
 | .gr _ _ _,vI,h,hf=>by simp[w7] at hf
 | .ptr _ _,vI,h,hf=>by simp[w7] at hf
 | .fn _ _ _,vI,h,hf=>by simp[w7] at hf
 | .ifc t v,vI,h,hf=>by
  simp only[b7] at h
  obtain ⟨u,rfl,h⟩:=h
  obtain ⟨a1,a2⟩:=oK h (by simpa only[w7] using hf)
  exact ⟨fun n=>by simp only[r5];exact a1 n,fun w'=>by simp only[b7];exact ⟨u,rfl,a2 w'⟩⟩
 | .dead,vI,h,hf=>by simp[w7] at hf
 | .tok _,vI,h,hf=>by simp[w7] at hf
theorem wI {w:VW}:∀ {l:List V} {vs:List Value},d8 w l vs→oJ l=true→(∀ n,x8 n vs= [])∧∀ w',d8 w' l vs
 | [],vs,h,_=>by simp only[d8] at h;subst h;exact ⟨fun n=>rfl,fun w'=>by simp only[d8]⟩
 |v::r,vs,h,hf=>by
  simp only[oJ,Bool.and_eq_true] at hf
  simp only[d8] at h
  obtain ⟨u,us,rfl,h1,h2⟩:=h
  obtain ⟨a1,a2⟩:=oK h1 hf.1
  obtain ⟨b1,b2⟩:=wI h2 hf.2
  exact ⟨fun n=>by simp[x8,a1 n,b1 n],fun w'=>by simp only[d8];exact ⟨u,us,rfl,a2 w',b2 w'⟩⟩
end
abbrev YV (E:E2) (h:j9) (F:Nat→Prop):VW:=⟨m9 E h,F,fun _=>none,0⟩
def ClF (h:j9) (n:Nat) (F:Nat→Prop):Prop:=∀ b,F b→b<n∧∃ blk,d9 h b=some blk∧∀ n,∀ i ∈ x8 n blk.cells,F i
def m6 (E:E2) (f:FuncId) (xs:List V) (v:V) (st1:l8):Prop:=
 ∀ (s:St) (F:Nat→Prop) (xsI:List Value),ClF s.heap s.next F→(∀ b blk,d9 s.heap b=some blk→b<s.next)→d8 (YV E s.heap F) xs xsI→
  ∃ vI bs μ G,E.pcall f xsI s=some (vI,bs)∧SR (C1 E s (YV E s.heap F)) st1 ⟨x4 s.heap s.next bs,s.next+bs.length,s.next⟩ μ G∧b7 (u5 (C1 E s (YV E s.heap F)) st1 ⟨x4 s.heap s.next bs,s.next+bs.length,s.next⟩ μ G) v vI∧(∀ b,G b→F b∨s.next≤b)∧(∀ b,F b→G b)∧(w7 v=true→bs= [])
section
variable {C:C5} {st:l8} {s:St} {μ:Nat→Option Nat} {F:Nat→Prop}
theorem SR.env (h:SR C st s μ F) {C':C5} (hE:m9 C'.E=m9 C.E) (hn:C'.n0=C.n0) (hh:C'.h0=C.h0) (hU:C'.U=C.U):SR C' st s μ F:=by
 have hw:u5 C' st s μ F=u5 C st s μ F:=by
  show (⟨m9 C'.E s.heap,F,μ,st.next⟩:VW)=⟨m9 C.E s.heap,F,μ,st.next⟩
  rw[hE]
 refine ⟨fun o ob e hnn=>?_,fun o ob b e1 e2 e3=>?_,h.fz,h.inj,h.dom,h.lt,h.cl,fun b hb=>?_,by rw[hn];exact h.n0,h.own,h.hb,h.pr,h.pb⟩
 ·rw[hw];exact h.obj o ob e hnn
 ·rw[hU];exact h.wr o ob b e1 e2 e3
 ·rw[hU] at hb;rw[hn,hh];exact h.un b hb
theorem SR.start {E:E2} {w0:VW} (hF:ClF s.heap s.next F) (hb:∀ b blk,d9 s.heap b=some blk→b<s.next):SR (C1 E s w0) ⟨[],0,0⟩ ⟨s.heap,s.next,s.next⟩ (fun _=>none) F:=
 ⟨(fun o ob e=>by cases e),(fun o ob b e=>by cases e),(fun o ob b e=>by cases e),(fun o o' b e=>by cases e),(fun o b e=>by cases e),(fun b h=>⟨(hF b h).1,by obtain ⟨blk,h1,_⟩:=(hF b h).2;exact ⟨blk,h1⟩⟩),(fun b h=>(hF b h).2),
  (fun b h=>⟨h,rfl⟩),Nat.le_refl _,(fun o ob e=>by cases e),hb,Nat.le_refl _,(fun o b e=>by cases e)⟩
def R7:Nat→List V→D7
 |_,[]=> []
 |n,v::r=>(n,v)::R7 (n+1) r
theorem cK {w:VW}:∀ {xs:List V} {vs:List Value} (n:Nat),d8 w xs vs→FR w (R7 n xs) (dH n vs)
 | [],vs,n,h=>fun t v e=>by cases e
 |x::r,vs,n,h=>by
  simp only[d8] at h
  obtain ⟨v,vs',rfl,h1,h2⟩:=h
  intro t u e
  simp only[R7] at e
  rw[k7] at e
  simp only[dH]
  rw[H4]
  split at e
  ·rename_i ht
   cases e
   exact ⟨v,by rw[if_pos ht],h1⟩
  ·rename_i ht
   obtain ⟨vI,a,b⟩:=cK (n+1) h2 t u e
   exact ⟨vI,by rw[if_neg ht];exact a,b⟩
def L0 (C:C5) (fr:D7) (st:l8):List (Nat × Option (Option Nat))→Option (List V)
 | []=>some []
 |(t,none)::r=>(f8 fr t).bind fun v=>(L0 C fr st r).map (v::·)
 |(t,some g)::r=>(f8 fr t).bind fun p=>(cL C.E.old st.own g p).bind fun v=>(L0 C fr st r).map (v::·)
def O1:List V→V
 | [v]=>v
 |l=> .tup l
theorem sH (h:SR C st s μ F) {fr:D7} {frI:Fr} (hf:FR (u5 C st s μ F) fr frI):∀ {res:List (Nat × Option (Option Nat))} {vs:List V},L0 C fr st res=some vs→∃ vsI,cC C.E frI s res=some vsI∧d8 (u5 C st s μ F) vs vsI
 | [],vs,e=>by simp only[L0,Option.some.injEq] at e;subst e;exact ⟨[],rfl,by simp only[d8]⟩
 |(t,none)::r,vs,e=>by
  simp only[L0,Option.bind_eq_some_iff,Option.map_eq_some_iff] at e
  obtain ⟨v,h1,vs',h2,rfl⟩:=e
  obtain ⟨vI,a1,a2⟩:=hf t v h1
  obtain ⟨vsI,b1,b2⟩:=sH h hf h2
  exact ⟨vI::vsI,by simp[cC,a1,b1],by simp only[d8];exact ⟨_,_,rfl,a2,b2⟩⟩
 |(t,some g)::r,vs,e=>by
  simp only[L0,Option.bind_eq_some_iff,Option.map_eq_some_iff] at e
  obtain ⟨p,h1,v,h3,vs',h2,rfl⟩:=e
  obtain ⟨pI,a1,a2⟩:=hf t p h1
  obtain ⟨vI,c1,c2⟩:=AU h.hr a2 h3
  obtain ⟨vsI,b1,b2⟩:=sH h hf h2
  refine ⟨vI::vsI,?_,by simp only[d8];exact ⟨_,_,rfl,c2,b2⟩⟩
  simp only[cC,a1,Option.bind_some]
  split at c1
  ·simp only[c1,Option.bind_some,b1,Option.map_some]
  ·cases c1
theorem aK2 {w:VW} {vs:List V} {vsI:List Value} (h:d8 w vs vsI):b7 w (O1 vs) (G7 vsI):=by
 rcases vs with _|⟨v,_|⟨u,r⟩⟩
 ·simp only[d8] at h;subst h;simp only[O1,G7,b7,d8];exact ⟨[],rfl,rfl⟩
 ·simp only[d8] at h
  obtain ⟨x,_,rfl,h1,rfl⟩:=h
  exact h1
 ·have h':=h
  simp only[d8] at h
  obtain ⟨x,_,rfl,h1,y,_,rfl,h2,h3⟩:=h
  simp only[O1,G7,b7]
  exact ⟨_,rfl,h'⟩
def qI (C:C5) (res:List (Nat × Option (Option Nat))) (v:V) (st1:l8):A8
 | .exit _,_,_=>False
 |_,fr,st=>∃ vs,L0 C fr st res=some vs∧M3 C [(0,O1 vs)] st [(0,v)] st1
theorem qN {af:p7} {xs:List V} {xsI:List Value} {v:V} {st1:l8} (hlen:xs.length≤af.n) (h:KL C af.code (R7 0 xs) st (qI C af.res v st1)) (hr:Rl C st (R7 0 xs) s (dH 0 xsI)) (hx:xsI.length=xs.length):
  ∃ vI s',body C.E af xsI s=some (vI,s')∧∃ μ F,SR C st1 s' μ F∧b7 (u5 C st1 s' μ F) v vI∧VW.le C.w0 (u5 C st1 s' μ F)∧s'.prot=C.p0∧∀ b,F b→C.w0.F b∨C.p0≤b:=by
 obtain ⟨ex,frI,s',e,fr',st',h1,h2⟩:=nR af.code h (dH 0 xsI) s hr
 have key:(∃ vs,L0 C fr' st' af.res=some vs∧M3 C [(0,O1 vs)] st' [(0,v)] st1)→∃ vI,cC C.E frI s' af.res=some vI∧∃ μ F,SR C st1 s' μ F∧b7 (u5 C st1 s' μ F) v (G7 vI)∧VW.le C.w0 (u5 C st1 s' μ F)∧s'.prot=C.p0∧∀ b,F b→C.w0.F b∨C.p0≤b:=by
  rintro ⟨vs,hv,hw⟩
  obtain ⟨μ,F,g1,g2,g3,g4,g5⟩:=h1
  obtain ⟨vsI,k1,k2⟩:=sH g1 g2 hv
  have hfr:FR (u5 C st' s' μ F) [(0,O1 vs)] [(0,G7 vsI)]:=fun t u e=>by
   rw[k7] at e
   split at e
   ·rename_i ht
    cases e
    exact ⟨_,by rw[H4,if_pos ht],aK2 k2⟩
   ·cases e
  obtain ⟨μ',F',q1,q2,q3,q4,q5⟩:=hw s' [(0,G7 vsI)] ⟨μ,F,g1,hfr,g3,g4,g5⟩
  obtain ⟨vI,r1,r2⟩:=q2 0 v (by rw[k7,if_pos rfl])
  rw[H4,if_pos rfl] at r1
  cases r1
  exact ⟨vsI,k1,μ',F',q1,r2,q3,q4,q5⟩
 have fin:(∃ vI,cC C.E frI s' af.res=some vI∧∃ μ F,SR C st1 s' μ F∧b7 (u5 C st1 s' μ F) v (G7 vI)∧VW.le C.w0 (u5 C st1 s' μ F)∧s'.prot=C.p0∧∀ b,F b→C.w0.F b∨C.p0≤b)→(match ex with| .exit _=>False|_=>True)→
   ∃ vI s',body C.E af xsI s=some (vI,s')∧∃ μ F,SR C st1 s' μ F∧b7 (u5 C st1 s' μ F) v vI∧VW.le C.w0 (u5 C st1 s' μ F)∧s'.prot=C.p0∧∀ b,F b→C.w0.F b∨C.p0≤b:=by
  rintro ⟨vI,k1,k2⟩ hx2
  refine ⟨G7 vI,s',?_,k2⟩
  unfold body
  rw[if_pos (by rw[Nat.ble_eq];omega),e]
  cases ex with
  |exit i=>exact hx2.elim
  |normal=>simp[k1]
  |ret=>simp[k1]
 cases ex with
 |exit i=>exact h2.elim
 |normal=>exact fin (key h2) trivial
 |ret=>exact fin (key h2) trivial
end
section
variable {old:Nat→Nat→Option Value} {rounds:Nat} {fns:FuncId→Option p7} {prims:FuncId→List Value→St→Option (Value × List u6)} {n:Nat} {f:FuncId} {xs:List V} {v:V} {st1:l8} {af:p7}
theorem eZ:∀ n,(t8 old rounds fns prims n).old=old
 |0=>rfl
 |n+1=>rfl
theorem T8 (n m:Nat):m9 (t8 old rounds fns prims n)=m9 (t8 old rounds fns prims m):=by
 funext h a
 rw[HJ,HJ,eZ,eZ]
theorem SE (hf:fns f=some af) (hpu:af.pure=true) (hp:∀ xs s,prims f xs s=none) (hlen:xs.length≤af.n) (hold:eO (t8 old rounds fns prims 0)) (hR:bM st1.own v) (hro:st1.ro=0)
  (h:∀ C:C5,C.E=t8 old rounds fns prims n→C.w0.nx=0→KL C af.code (R7 0 xs) ⟨[],0,0⟩ (qI C af.res v st1)):m6 (t8 old rounds fns prims (n+1)) f xs v st1:=by
 intro s F xsI hF hb hx
 let C:C5:=C1 (t8 old rounds fns prims n) s (YV (t8 old rounds fns prims n) s.heap F)
 have hs:SR C ⟨[],0,0⟩ ⟨s.heap,s.next,s.next⟩ (fun _=>none) F:=SR.start hF hb
 have hx':d8 (u5 C ⟨[],0,0⟩ ⟨s.heap,s.next,s.next⟩ (fun _=>none) F) xs xsI:=by
  show d8 ⟨m9 (t8 old rounds fns prims n) s.heap,F,fun _=>none,0⟩ xs xsI
  rw[T8 n (n+1)];exact hx
 obtain ⟨vI,sf,hbody,μ,G,g1,g2,g3,g4,g5⟩:=qN (C:=C) (s:=⟨s.heap,s.next,s.next⟩) hlen (h C rfl rfl) ⟨_,F,hs,cK 0 hx',VW.le.refl _,rfl,fun b hb=> .inl hb⟩ hx.length
 have hU:∀ b,b<C.n0→C.U b:=fun b hb=>hb
 have hold':eO C.E:=fun b o v e=>by
  refine hold b o v ?_
  have:C.E.old=old:=eZ n
  rw[this] at e;exact e
 obtain ⟨v2,bs,μ2,G2,k1,k2,k3,k4,k5,k6⟩:=cD5 g1 hU rfl hro g4 hold' hF g5 g3.F hb g2 hR
 refine ⟨v2,bs,μ2,G2,?_,k2.env (T8 _ _) rfl rfl rfl,?_,k4,k5,fun hfl=>k6 ((oK g2 hfl).1 _)⟩
 ·simp only[K4,hp,hf,Option.bind_some,hpu,if_true]
  rw[show body (t8 old rounds fns prims n) af xsI ⟨s.heap,s.next,s.next⟩=some (vI,sf) from hbody]
  exact k1
 ·show b7 ⟨m9 (t8 old rounds fns prims (n+1)) _,G2,μ2,st1.next⟩ v v2
  rw[T8 (n+1) n];exact k3
theorem aK0 {st0:l8} (hf:fns f=some af) (hpu:af.pure=true) (hp:∀ xs s,prims f xs s=none) (hlen:xs.length≤af.n) (hfl:w7 v=true)
  (h:∀ C:C5,C.E=t8 old rounds fns prims n→C.w0.nx=st0.next→∃ st1,KL C af.code (R7 0 xs) ⟨st0.own,st0.next,st0.next⟩ (qI C af.res v st1)):H0 (t8 old rounds fns prims (n+1)) f st0 xs v:=by
 intro s μ F xsI w0 hs hx
 let C:C5:=⟨t8 old rounds fns prims n,s.next,s.heap,(· <s.next),⟨m9 (t8 old rounds fns prims n) s.heap,F,μ,st0.next⟩,s.next⟩
 have hs':SR C ⟨st0.own,st0.next,st0.next⟩ ⟨s.heap,s.next,s.next⟩ μ F:=hs.env (T8 _ _) rfl rfl rfl
 obtain ⟨st1,h⟩:=h C rfl rfl
 have hx':d8 (u5 C ⟨st0.own,st0.next,st0.next⟩ ⟨s.heap,s.next,s.next⟩ μ F) xs xsI:=by
  show d8 ⟨m9 (t8 old rounds fns prims n) s.heap,F,μ,st0.next⟩ xs xsI
  rw[T8 n (n+1)];exact hx
 obtain ⟨vI,sf,hbody,μ',G,g1,g2,g3,g4,g5⟩:=qN (C:=C) (s:=⟨s.heap,s.next,s.next⟩) hlen h ⟨_,F,hs',cK 0 hx',VW.le.refl _,rfl,fun b hb=> .inl hb⟩ hx.length
 obtain ⟨q1,q2⟩:=oK g2 hfl
 refine ⟨vI,?_,q2⟩
 simp only[K4,hp,hf,Option.bind_some,hpu,if_true]
 rw[show body (t8 old rounds fns prims n) af xsI ⟨s.heap,s.next,s.next⟩=some (vI,sf) from hbody]
 simp only[Option.bind_some]
 unfold gc
 rw[q1]
end
mutual
def x7 (H:E4):V→Option V
 | .sc x=>some (.sc x)
 | .sl s n l=>some (.sl s n l)
 | .slk s n c l=>some (.slk s n c l)
 | .dp l o=>some (.dp l o)
 | .ref o k n c=>(cY H (.ref o k n c)).map dv
 | .gr s o n=>(cY H (.gr s o n)).map dv
 | .agg l=>(J7 H l).map .agg
 | .tup l=>(J7 H l).map .tup
 | .fn f a b=>(J7 H a).bind fun a=>(J7 H b).map fun b=> .fn f a b
 | .ifc t v=>(x7 H v).map (.ifc t)
 | .ptr _ _=>none
 | .dead=>none
 | .tok _=>none
def J7 (H:E4):List V→Option (List V)
 | []=>some []
 |v::r=>(x7 H v).bind fun v=>(J7 H r).map (v::·)
end
mutual
def cT:V→List Nat
 | .ref o _ _ _=> [o]
 | .gr _ o _=> [o]
 | .agg l=>Z5 l
 | .tup l=>Z5 l
 | .fn _ a b=>Z5 a++Z5 b
 | .ifc _ v=>cT v
 |_=> []
def Z5:List V→List Nat
 | []=> []
 |v::r=>cT v++Z5 r
end
mutual
def BF (k:Nat):V→V
 | .ref o i n c=> .ref (k+o) i n c
 | .gr s o n=> .gr s (k+o) n
 | .ptr o i=> .ptr (k+o) i
 | .tok o=> .tok (k+o)
 | .agg l=> .agg (AY k l)
 | .tup l=> .tup (AY k l)
 | .fn f a b=> .fn f (AY k a) (AY k b)
 | .ifc t v=> .ifc t (BF k v)
 |v=>v
def AY (k:Nat):List V→List V
 | []=> []
 |v::r=>BF k v::AY k r
end
def shO (k:Nat):Obj→Obj
 | .box t e l=> .box t e (AY k l)
 |o=>o
def FO (k:Nat):E4→E4
 | []=> []
 |(j,o)::r=>(k+j,shO k o)::FO k r
section
variable {C:C5} {st:l8} {s:St} {μ:Nat→Option Nat} {F:Nat→Prop} {E:E2} {H:E4} {heap:j9} {w w':VW}
mutual
theorem u7.sw (h1:w'.ld=w.ld) (h2:w'.F=w.F):∀ {d:D} {v:Value},u7 w d v→u7 w' d v
 | .sc x,v,r=>by simp only[u7] at r ⊢;exact r
 | .sl s n l,v,r=>by
  simp only[u7] at r ⊢
  rcases r with ⟨a,c,e,i,k,r,q⟩|r
  ·exact .inl ⟨a,c,e,by unfold VW.inF at i ⊢;rw[h2];exact i,k,v7.sw h1 h2 r,q⟩
  ·exact .inr r
theorem v7.sw (h1:w'.ld=w.ld) (h2:w'.F=w.F):∀ {l:List D} {a:Addr},v7 w l a→v7 w' l a
 | [],a,_=>by simp only[v7]
 |d::r,a,q=>by
  simp only[v7] at q ⊢
  obtain ⟨⟨v,e1,e2⟩,h3⟩:=q
  exact ⟨⟨v,by rw[h1];exact e1,u7.sw h1 h2 e2⟩,v7.sw h1 h2 h3⟩
end
theorem iV (h2:w'.F=w.F) {a:Addr} (i:w.inF a):w'.inF a:=by unfold VW.inF at i ⊢;rw[h2];exact i
mutual
theorem JZ (hr:HR E H heap w) {w1:VW} (hle:VW.le w w1) {w2:VW} (h1:w2.ld=w1.ld) (h2:w2.F=w1.F):∀ {v v':V} {vI:Value},b7 w v vI→x7 H v=some v'→Fin w w1 (cT v)→LdX heap w w1 (cT v)→b7 w2 v' vI
 | .sc x,v',vI,h,e,_,_=>by simp only[x7,Option.some.injEq] at e;subst e;simp only[b7] at h ⊢;exact h
 | .sl s n l,v',vI,h,e,_,_=>by
  simp only[x7,Option.some.injEq] at e;subst e
  simp only[b7] at h ⊢
  exact (h.mono hle).sw h1 h2
 | .slk s n c l,v',vI,h,e,_,_=>by
  simp only[x7,Option.some.injEq] at e;subst e
  have:=b7.mono hle h
  simp only[b7] at this ⊢
  refine ⟨this.1,this.2.1,this.2.2.imp ?_ id⟩
  rintro ⟨a,e,i,r⟩
  exact ⟨a,e,iV h2 i,r.sw h1 h2⟩
 | .dp l o,v',vI,h,e,_,_=>by
  simp only[x7,Option.some.injEq] at e;subst e
  have:=b7.mono hle h
  simp only[b7] at this ⊢
  obtain ⟨a,e,i,r⟩:=this
  exact ⟨a,e,iV h2 i,r.sw h1 h2⟩
 | .ref o k n c,v',vI,h,e,hF,hL=>by
  simp only[x7,Option.map_eq_some_iff] at e
  obtain ⟨d,hd,rfl⟩:=e
  exact qU ((WB hr hle h hd hF hL).1.sw h1 h2)
 | .gr s o n,v',vI,h,e,hF,hL=>by
  simp only[x7,Option.map_eq_some_iff] at e
  obtain ⟨d,hd,rfl⟩:=e
  exact qU ((WB hr hle h hd hF hL).1.sw h1 h2)
 | .agg l,v',vI,h,e,hF,hL=>by
  simp only[x7,Option.map_eq_some_iff] at e
  obtain ⟨l',hl,rfl⟩:=e
  simp only[b7] at h ⊢
  obtain ⟨vs,rfl,h⟩:=h
  exact ⟨vs,rfl,eD hr hle h1 h2 h hl hF hL⟩
 | .tup l,v',vI,h,e,hF,hL=>by
  simp only[x7,Option.map_eq_some_iff] at e
  obtain ⟨l',hl,rfl⟩:=e
  simp only[b7] at h ⊢
  obtain ⟨vs,rfl,h⟩:=h
  exact ⟨vs,rfl,eD hr hle h1 h2 h hl hF hL⟩
 | .fn f a b,v',vI,h,e,hF,hL=>by
  simp only[x7,Option.bind_eq_some_iff,Option.map_eq_some_iff] at e
  obtain ⟨a',ha,b',hb,rfl⟩:=e
  simp only[b7] at h ⊢
  obtain ⟨as,bs,rfl,q1,q2⟩:=h
  exact ⟨as,bs,rfl,eD hr hle h1 h2 q1 ha (fun o ho=>hF o (by simp[cT,ho])) (fun o ho=>hL o (by simp[cT,ho])),eD hr hle h1 h2 q2 hb (fun o ho=>hF o (by simp[cT,ho])) (fun o ho=>hL o (by simp[cT,ho]))⟩
 | .ifc t u,v',vI,h,e,hF,hL=>by
  simp only[x7,Option.map_eq_some_iff] at e
  obtain ⟨u',hu,rfl⟩:=e
  simp only[b7] at h ⊢
  obtain ⟨x,rfl,h⟩:=h
  exact ⟨x,rfl,JZ hr hle h1 h2 h hu hF hL⟩
 | .ptr _ _,v',vI,h,e,_,_=>by simp[x7] at e
 | .dead,v',vI,h,e,_,_=>by simp[x7] at e
 | .tok _,v',vI,h,e,_,_=>by simp[x7] at e
theorem eD (hr:HR E H heap w) {w1:VW} (hle:VW.le w w1) {w2:VW} (h1:w2.ld=w1.ld) (h2:w2.F=w1.F):∀ {l l':List V} {vs:List Value},d8 w l vs→J7 H l=some l'→Fin w w1 (Z5 l)→LdX heap w w1 (Z5 l)→d8 w2 l' vs
 | [],l',vs,h,e,_,_=>by simp only[J7,Option.some.injEq] at e;subst e;simp only[d8] at h ⊢;exact h
 |v::r,l',vs,h,e,hF,hL=>by
  simp only[J7,Option.bind_eq_some_iff,Option.map_eq_some_iff] at e
  obtain ⟨v',hv,r',hr',rfl⟩:=e
  simp only[d8] at h ⊢
  obtain ⟨u,us,rfl,q1,q2⟩:=h
  exact ⟨u,us,rfl,JZ hr hle h1 h2 q1 hv (fun o ho=>hF o (by simp[Z5,ho])) (fun o ho=>hL o (by simp[Z5,ho])),eD hr hle h1 h2 q2 hr' (fun o ho=>hF o (by simp[Z5,ho])) (fun o ho=>hL o (by simp[Z5,ho]))⟩
end
theorem aA3 {v:V} {d:D} (h:cY H v=some d):∀ o ∈ wQ v,∃ ob,f8 H o=some ob∧ob.froz.fz=true:=by
 intro o ho
 cases v with
 |ref o' k n c=>
  simp only[wQ,List.mem_singleton] at ho;subst ho
  simp only[cY] at h
  split at h
  ·rename_i e;exact ⟨_,e,rfl⟩
  ·cases h
 |gr s o' n=>
  simp only[wQ,List.mem_singleton] at ho;subst ho
  simp only[cY] at h
  split at h
  ·rename_i e;exact ⟨_,e,rfl⟩
  ·cases h
 |_=>simp[wQ] at ho
mutual
theorem QU:∀ {v v':V},x7 H v=some v'→∀ o ∈ cT v,∃ ob,f8 H o=some ob∧ob.froz.fz=true
 | .ref o' k n c,v',e,o,ho=>by
  simp only[x7,Option.map_eq_some_iff] at e
  obtain ⟨d,hd,rfl⟩:=e
  exact aA3 hd o (by simpa [cT,wQ] using ho)
 | .gr s o' n,v',e,o,ho=>by
  simp only[x7,Option.map_eq_some_iff] at e
  obtain ⟨d,hd,rfl⟩:=e
  exact aA3 hd o (by simpa [cT,wQ] using ho)
 | .agg l,v',e,o,ho=>by
  simp only[x7,Option.map_eq_some_iff] at e
  obtain ⟨l',hl,rfl⟩:=e
  exact bK hl o (by simpa only[cT] using ho)
 | .tup l,v',e,o,ho=>by
  simp only[x7,Option.map_eq_some_iff] at e
  obtain ⟨l',hl,rfl⟩:=e
  exact bK hl o (by simpa only[cT] using ho)
 | .fn f a b,v',e,o,ho=>by
  simp only[x7,Option.bind_eq_some_iff,Option.map_eq_some_iff] at e
  obtain ⟨a',ha,b',hb,rfl⟩:=e
  simp only[cT,List.mem_append] at ho
  rcases ho with ho|ho
  ·exact bK ha o ho
  ·exact bK hb o ho
 | .ifc t u,v',e,o,ho=>by
  simp only[x7,Option.map_eq_some_iff] at e
  obtain ⟨u',hu,rfl⟩:=e
  exact QU hu o (by simpa only[cT] using ho)
 | .sc _,_,_,o,ho=>by simp[cT] at ho
 | .sl _ _ _,_,_,o,ho=>by simp[cT] at ho
 | .slk _ _ _ _,_,_,o,ho=>by simp[cT] at ho
 | .dp _ _,_,_,o,ho=>by simp[cT] at ho
 | .ptr _ _,_,_,o,ho=>by simp[cT] at ho
 | .dead,_,_,o,ho=>by simp[cT] at ho
 | .tok _,_,_,o,ho=>by simp[cT] at ho
theorem bK:∀ {l l':List V},J7 H l=some l'→∀ o ∈ Z5 l,∃ ob,f8 H o=some ob∧ob.froz.fz=true
 | [],_,_,o,ho=>by simp[Z5] at ho
 |v::r,l',e,o,ho=>by
  simp only[J7,Option.bind_eq_some_iff,Option.map_eq_some_iff] at e
  obtain ⟨v',hv,r',hr',rfl⟩:=e
  simp only[Z5,List.mem_append] at ho
  rcases ho with ho|ho
  ·exact QU hv o ho
  ·exact bK hr' o ho
end
theorem SR.snaps (h:SR C st s μ F) {xs xs':List V} {xsI:List Value} (hx:d8 (u5 C st s μ F) xs xsI) (hs:J7 st.own xs=some xs'):ClF s.heap s.next (aQ μ F (Z5 xs))∧d8 (YV C.E s.heap (aQ μ F (Z5 xs))) xs' xsI:=by
 have hle:VW.le (u5 C st s μ F) ⟨m9 C.E s.heap,aQ μ F (Z5 xs),μ,st.next⟩:=⟨fun _ _=>rfl,fun b hb=> .inl hb,Nat.le_refl _,fun _ _ _ e=>e⟩
 refine ⟨fun b hb=>?_,eD (w2:=YV C.E s.heap (aQ μ F (Z5 xs))) h.hr hle rfl rfl hx hs (fun o ho b e=> .inr ⟨o,ho,e⟩) (fun o ho b e k sp blk hb=>kD (E:=C.E) hb)⟩
 rcases hb with hb|⟨o,ho,e⟩
 ·refine ⟨(h.lt b hb).1,?_⟩
  obtain ⟨blk,c1,c2⟩:=h.cl b hb
  exact ⟨blk,c1,fun n i hi=> .inl (c2 n i hi)⟩
 ·refine ⟨(h.dom o b e).1,?_⟩
  obtain ⟨ob,q1,q2⟩:=bK hs o ho
  obtain ⟨blk,c1,c2⟩:=h.row_cl q1 q2 e
  exact ⟨blk,c1,fun n i hi=> .inl (c2 n i hi)⟩
theorem SR.enter (h:SR C st s μ F) (w0:VW):SR (C1 C.E s w0) ⟨st.own,st.next,st.next⟩ ⟨s.heap,s.next,s.next⟩ μ F:=
 ⟨h.obj,fun o ob b e e2 hz=>⟨(h.wr o ob b e e2 hz).1,fun hro=>by have:=(h.own o ob e).1;simp only at hro;omega⟩,h.fz,h.inj,h.dom,h.lt,h.cl,fun b hb=>⟨hb,rfl⟩,Nat.le_refl _,h.own,h.hb,Nat.le_refl _,fun o b e hro=>by have:=(h.dom o b e).2.1;simp only at hro;omega⟩
theorem m6.flat {f:FuncId} {xs xs':List V} {v:V} {st1:l8} (h:m6 E f xs' v st1) (hf:w7 v=true) (hs:J7 st.own xs=some xs'):H0 E f st xs v:=by
 intro s μ F xsI w0 hsr hx
 obtain ⟨a1,a2⟩:=hsr.snaps hx hs
 obtain ⟨vI,bs,μ2,G,e,_,hv,_,_,hb⟩:=h s _ xsI a1 hsr.hb a2
 rw[hb hf] at e
 exact ⟨vI,e,(oK hv hf).2⟩
theorem a6 {f:FuncId} {xs:List V} {v:V} {Q:V→l8→Prop} (h:H0 C.E f st xs v) (hq:Q v st):W2 C f xs st Q:=by
 refine ⟨v,st,hq,fun s μ F xsI hsr hx hp=>?_⟩
 obtain ⟨vI,e,hv⟩:=h s μ F xsI C.w0 (hsr.enter C.w0) hx
 exact ⟨vI,s,μ,F,by simp only[callI,e];rfl,hsr,hv _,VW.le.refl _,rfl,Nat.le_refl _,fun b hb=> .inl hb⟩
theorem Q4 {f:FuncId} {xs:List V} {v:V} {nx:Nat} {Q:V→Prop} {R:V→Obj→Prop} (h:H0 C.E f ⟨H,nx,nx⟩ xs v) (hq:Q v):uT C f xs H nx Q R:= .inl ⟨v,h,hq⟩
theorem vM {f:FuncId} {xs:List V} {v:V} {ob:Obj} {nx:Nat} {Q:V→Prop} {R:V→Obj→Prop} (h:HG C.E f ⟨H,nx,nx⟩ xs v ob) (hq:R v ob):uT C f xs H nx Q R:= .inr ⟨v,ob,h,hq⟩
theorem SR.freeze (h:SR C st s μ F) {fz:List Nat} (hrow:E1 st.ro st.own fz=true):SR C ⟨C0 fz st.own,st.next,st.ro⟩ s μ (aQ μ F fz)∧VW.le (u5 C st s μ F) (u5 C ⟨C0 fz st.own,st.next,st.ro⟩ s μ (aQ μ F fz)):=by
 have hle:VW.le (u5 C st s μ F) (u5 C ⟨C0 fz st.own,st.next,st.ro⟩ s μ (aQ μ F fz)):=⟨fun _ _=>rfl,fun b hb=> .inl hb,Nat.le_refl _,fun _ _ _ e=>e⟩
 have hown:∀ i obj,f8 (C0 fz st.own) i=some obj→∃ ob0,f8 st.own i=some ob0∧obj=if l7 i fz then ob0.froz else ob0:=fun i obj e=>by
  rw[S7] at e
  simp only[Option.map_eq_some_iff] at e
  obtain ⟨ob0,e1,e2⟩:=e
  exact ⟨ob0,e1,e2.symm⟩
 refine ⟨⟨?_,?_,?_,h.inj,?_,?_,?_,h.un,h.n0,?_,h.hb,h.pr,h.pb⟩,hle⟩
 ·intro i obj e hn
  obtain ⟨ob0,e1,rfl⟩:=hown i obj e
  have hn0:ob0.none=false:=by split at hn;(rw[bC] at hn;exact hn);exact hn
  obtain ⟨c,blk0,m1,m2,m3⟩:=h.obj i ob0 e1 hn0
  refine ⟨c,blk0,m1,m2,?_⟩
  split
  ·exact wP (m3.mono hle)
  ·exact m3.mono hle
 ·intro i obj c e e3 hzz
  obtain ⟨ob0,e1,rfl⟩:=hown i obj e
  by_cases hf:l7 i fz=true
  ·rw[if_pos hf] at hzz
   obtain ⟨ob1,q1,q2,_⟩:=T3 hrow i ((j7 _ _).1 hf)
   rw[e1] at q1;cases q1
   rw[hzz] at q2;cases q2
  ·rw[if_neg hf] at hzz
   obtain ⟨w2,w3⟩:=h.wr i ob0 c e1 e3 hzz
   refine ⟨?_,w3⟩
   rintro (hb|⟨j,hj,ej⟩)
   ·exact w2 hb
   ·have:=h.inj i j c e3 ej
    subst this
    exact hf ((j7 _ _).2 hj)
 ·intro i obj c e e3 hzz
  obtain ⟨ob0,e1,rfl⟩:=hown i obj e
  by_cases hf:l7 i fz=true
  ·exact .inr ⟨i,(j7 _ _).1 hf,e3⟩
  ·rw[if_neg hf] at hzz
   exact .inl (h.fz i ob0 c e1 e3 hzz)
 ·intro i c e
  obtain ⟨d1,d2,ob0,d3,d4⟩:=h.dom i c e
  refine ⟨d1,d2,(if l7 i fz then ob0.froz else ob0),by rw[S7,d3];rfl,?_⟩
  split
  ·rw[bC];exact d4
  ·exact d4
 ·rintro c (hc|⟨i,_,e⟩)
  ·exact h.lt c hc
  ·obtain ⟨d1,_,ob0,d3,d4⟩:=h.dom i c e
   obtain ⟨b',blk0,m1,m2,_⟩:=h.obj i ob0 d3 d4
   rw[e] at m1;cases m1
   exact ⟨d1,blk0,m2⟩
 ·rintro c (hc|⟨i,hi,e⟩)
  ·obtain ⟨blk0,c1,c2⟩:=h.cl c hc
   exact ⟨blk0,c1,fun n j hj=> .inl (c2 n j hj)⟩
  ·obtain ⟨ob0,q1,q2,_⟩:=T3 hrow i hi
   obtain ⟨blk0,c1,c2⟩:=h.row_cl q1 q2 e
   exact ⟨blk0,c1,fun n j hj=> .inl (c2 n j hj)⟩
 ·intro i obj e
  obtain ⟨ob0,e1,rfl⟩:=hown i obj e
  obtain ⟨o1,o2⟩:=h.own i ob0 e1
  refine ⟨o1,?_⟩
  split
  ·rw[IP];exact o2
  ·exact o2
mutual
theorem KH {k:Nat} {w w':VW} (h1:w'.ld=w.ld) (h2:w'.F=w.F) (h3:k+w.nx≤w'.nx) (h4:∀ o b,w'.μ (k+o)=some b→w.μ o=some b):∀ {v:V} {vI:Value},b7 w v vI→b7 w' (BF k v) vI
 | .sc x,vI,h=>by simp only[BF,b7] at h ⊢;exact h
 | .sl s n l,vI,h=>by simp only[BF,b7] at h ⊢;exact h.sw h1 h2
 | .slk s n c l,vI,h=>by
  simp only[BF,b7] at h ⊢
  refine ⟨h.1,h.2.1,h.2.2.imp ?_ id⟩
  rintro ⟨a,e,i,r⟩
  exact ⟨a,e,iV h2 i,r.sw h1 h2⟩
 | .dp l o,vI,h=>by
  simp only[BF,b7] at h ⊢
  obtain ⟨a,e,i,r⟩:=h
  exact ⟨a,e,iV h2 i,r.sw h1 h2⟩
 | .ref o i n c,vI,h=>by
  simp only[BF,b7] at h ⊢
  obtain ⟨q1,q2,b',e,q3⟩:=h
  exact ⟨by omega,q2,b',e,fun b hb=>q3 b (h4 o b hb)⟩
 | .gr s o n,vI,h=>by
  simp only[BF,b7] at h ⊢
  obtain ⟨q1,q2⟩:=h
  refine ⟨by omega,q2.imp (And.imp id (Or.imp id (And.imp id ?_))) ?_⟩
  ·rintro ⟨a,c,e,i⟩
   exact ⟨a,c,e,iV h2 i⟩
  ·rintro ⟨hn,b',e,q3⟩
   exact ⟨hn,b',e,fun b hb=>q3 b (h4 o b hb)⟩
 | .ptr o i,vI,h=>by
  simp only[BF,b7] at h ⊢
  obtain ⟨q1,b',e,q3⟩:=h
  exact ⟨by omega,b',e,fun b hb=>q3 b (h4 o b hb)⟩
 | .agg l,vI,h=>by
  simp only[BF,b7] at h ⊢
  obtain ⟨vs,e,h⟩:=h
  exact ⟨vs,e,eJ h1 h2 h3 h4 h⟩
 | .tup l,vI,h=>by
  simp only[BF,b7] at h ⊢
  obtain ⟨vs,e,h⟩:=h
  exact ⟨vs,e,eJ h1 h2 h3 h4 h⟩
 | .fn f a b,vI,h=>by
  simp only[BF,b7] at h ⊢
  obtain ⟨as,bs,e,q1,q2⟩:=h
  exact ⟨as,bs,e,eJ h1 h2 h3 h4 q1,eJ h1 h2 h3 h4 q2⟩
 | .ifc t u,vI,h=>by
  simp only[BF,b7] at h ⊢
  obtain ⟨x,e,h⟩:=h
  exact ⟨x,e,KH h1 h2 h3 h4 h⟩
 | .dead,vI,h=>by simp only[BF,b7]
 | .tok o,vI,h=>by
  simp only[BF,b7] at h ⊢
  obtain ⟨q1,b',e,q3⟩:=h
  exact ⟨by omega,b',e,fun b hb=>q3 b (h4 o b hb)⟩
theorem eJ {k:Nat} {w w':VW} (h1:w'.ld=w.ld) (h2:w'.F=w.F) (h3:k+w.nx≤w'.nx) (h4:∀ o b,w'.μ (k+o)=some b→w.μ o=some b):∀ {l:List V} {vs:List Value},d8 w l vs→d8 w' (AY k l) vs
 | [],vs,h=>by simp only[AY,d8] at h ⊢;exact h
 |v::r,vs,h=>by
  simp only[AY,d8] at h ⊢
  obtain ⟨u,us,e,q1,q2⟩:=h
  exact ⟨u,us,e,KH h1 h2 h3 h4 q1,eJ h1 h2 h3 h4 q2⟩
end
theorem JX (k:Nat):∀ (H:E4) (o:Nat),f8 (FO k H) (k+o)=(f8 H o).map (shO k)
 | [],o=>rfl
 |(j,ob)::r,o=>by
  simp only[FO]
  rw[k7,k7,JX k r o]
  by_cases h:o=j
  ·subst h;rw[if_pos rfl,if_pos rfl];rfl
  ·rw[if_neg h,if_neg (by omega)]
theorem JY (k:Nat):∀ (H:E4) (o:Nat),o<k→f8 (FO k H) o=none
 | [],o,_=>rfl
 |(j,ob)::r,o,h=>by
  simp only[FO]
  rw[k7,if_neg (by omega)]
  exact JY k r o h
theorem nZ {α:Type}:∀ (a b:List (Nat × α)) (i:Nat),f8 (a++b) i=match f8 a i with|some x=>some x|none=>f8 b i
 | [],b,i=>rfl
 |(j,v)::r,b,i=>by
  simp only[List.cons_append]
  rw[k7,k7]
  split
  ·rfl
  ·exact nZ r b i
theorem QT (k:Nat) (o:Obj):(shO k o).none=o.none:=by
 cases o with
 |gro t e z l=>cases l<;>rfl
 |_=>rfl
theorem aY8 (k:Nat) (o:Obj):(shO k o).fz=o.fz:=by cases o<;>rfl
theorem bW5 (k:Nat) (o:Obj):(shO k o).ok=o.ok:=by cases o<;>rfl
theorem SR.join (h:SR C st s μ F) {st1:l8} {bs:List u6} {μ2:Nat→Option Nat} {G:Nat→Prop} {w0:VW} (h1:SR (C1 C.E s w0) st1 ⟨x4 s.heap s.next bs,s.next+bs.length,s.next⟩ μ2 G) (hro:st1.ro=0) (hG:∀ b,G b→F b∨s.next≤b) (hFG:∀ b,F b→G b):
  ∃ μ',SR C ⟨FO st.next st1.own++st.own,st.next+st1.next,st.ro⟩ (s.push bs) μ' G∧VW.le (u5 C st s μ F) (u5 C ⟨FO st.next st1.own++st.own,st.next+st1.next,st.ro⟩ (s.push bs) μ' G)∧
   ∀ {v:V} {vI:Value},b7 (u5 (C1 C.E s w0) st1 ⟨x4 s.heap s.next bs,s.next+bs.length,s.next⟩ μ2 G) v vI→b7 (u5 C ⟨FO st.next st1.own++st.own,st.next+st1.next,st.ro⟩ (s.push bs) μ' G) (BF st.next v) vI:=by
 let μ':Nat→Option Nat:=fun o=>if o<st.next then μ o else μ2 (o - st.next)
 have hlow:∀ o b,o<st.next→μ' o=some b→μ o=some b:=fun o b ho e=>by simp only[μ'] at e;rw[if_pos ho] at e;exact e
 have hhi:∀ o b,μ' (st.next+o)=some b→μ2 o=some b:=fun o b e=>by
  simp only[μ'] at e;rw[if_neg (by omega),show st.next+o - st.next=o by omega] at e;exact e
 have hmu:∀ o b,μ' o=some b→(o<st.next∧μ o=some b∧b<s.next)∨(∃ o1,o=st.next+o1∧μ2 o1=some b∧s.next≤b):=fun o b e=>by
  by_cases ho:o<st.next
  ·exact .inl ⟨ho,hlow o b ho e,(h.dom o b (hlow o b ho e)).1⟩
  ·refine .inr ⟨o - st.next,by omega,?_,?_⟩
   ·exact hhi _ b (by rw[show st.next+(o - st.next)=o by omega];exact e)
   ·exact h1.pb (o - st.next) b (hhi _ b (by rw[show st.next+(o - st.next)=o by omega];exact e)) (by rw[hro];exact Nat.zero_le _)
 have d9:∀ b,b<s.next→d9 (x4 s.heap s.next bs) b=d9 s.heap b:=fun b hb=>by rw[w8,if_neg (by omega)]
 have hFl:∀ b,F b→b<s.next:=fun b hb=>(h.lt b hb).1
 have hle:VW.le (u5 C st s μ F) (u5 C ⟨FO st.next st1.own++st.own,st.next+st1.next,st.ro⟩ (s.push bs) μ' G):=by
  refine ⟨fun a i=>?_,hFG,Nat.le_add_right _ _,fun o b ho e=>hlow o b ho e⟩
  obtain ⟨b,o,sp⟩:=a
  cases sp with
  |none=>rfl
  |some k=>simp only[m9,St.push];rw[d9 b (hFl b i)]
 have hsh:∀ {v:V} {vI:Value},b7 (u5 (C1 C.E s w0) st1 ⟨x4 s.heap s.next bs,s.next+bs.length,s.next⟩ μ2 G) v vI→b7 (u5 C ⟨FO st.next st1.own++st.own,st.next+st1.next,st.ro⟩ (s.push bs) μ' G) (BF st.next v) vI:=
  fun hv=>KH (w':=u5 C ⟨FO st.next st1.own++st.own,st.next+st1.next,st.ro⟩ (s.push bs) μ' G) (k:=st.next) (w:=u5 (C1 C.E s w0) st1 ⟨x4 s.heap s.next bs,s.next+bs.length,s.next⟩ μ2 G) rfl rfl (Nat.le_refl _) hhi hv
 have hown:∀ o ob,f8 (FO st.next st1.own++st.own) o=some ob→(o<st.next∧f8 st.own o=some ob)∨(∃ o1 ob1,o=st.next+o1∧f8 st1.own o1=some ob1∧ob=shO st.next ob1):=fun o ob e=>by
  rw[nZ] at e
  by_cases ho:o<st.next
  ·rw[JY _ _ _ ho] at e;exact .inl ⟨ho,e⟩
  ·have e':o=st.next+(o - st.next):=by omega
   rw[e',JX] at e
   cases ha:f8 st1.own (o - st.next) with
   |none=>
    rw[ha] at e
    simp only[Option.map_none] at e
    rw[← e'] at e
    have:=(h.own o ob e).1
    omega
   |some ob1=>rw[ha] at e;simp only[Option.map_some,Option.some.injEq] at e;exact .inr ⟨_,ob1,e',ha,e.symm⟩
 have hgl:∀ o ob,o<st.next→f8 st.own o=some ob→f8 (FO st.next st1.own++st.own) o=some ob:=fun o ob ho e=>by rw[nZ,JY _ _ _ ho];exact e
 have hgh:∀ o ob,f8 st1.own o=some ob→f8 (FO st.next st1.own++st.own) (st.next+o)=some (shO st.next ob):=fun o ob e=>by rw[nZ,JX,e];rfl
 refine ⟨μ',⟨?_,?_,?_,?_,?_,?_,?_,?_,?_,?_,?_,?_,?_⟩,hle,hsh⟩
 ·intro o ob e hn
  rcases hown o ob e with ⟨ho,e1⟩|⟨o1,ob1,rfl,e1,rfl⟩
  ·obtain ⟨b,blk,m1,m2,m3⟩:=h.obj o ob e1 hn
   exact ⟨b,blk,by simp only[μ'];rw[if_pos ho];exact m1,by simp only[St.push];rw[d9 b (h.dom o b m1).1];exact m2,m3.mono hle⟩
  ·rw[QT] at hn
   obtain ⟨b,blk,m1,m2,m3⟩:=h1.obj o1 ob1 e1 hn
   refine ⟨b,blk,by simp only[μ'];rw[if_neg (by omega),show st.next+o1 - st.next=o1 by omega];exact m1,m2,?_⟩
   have hD:∀ {l:List D} {vs:List Value},j6 (u5 (C1 C.E s w0) st1 ⟨x4 s.heap s.next bs,s.next+bs.length,s.next⟩ μ2 G) l vs→j6 (u5 C ⟨FO st.next st1.own++st.own,st.next+st1.next,st.ro⟩ (s.push bs) μ' G) l vs:=by
    intro l vs hl
    exact j6.of hl.length fun i d v q1 q2=>by
     obtain ⟨v',a,b⟩:=hl.get i d q1
     rw[q2] at a;cases a
     exact u7.sw (w:=u5 (C1 C.E s w0) st1 ⟨x4 s.heap s.next bs,s.next+bs.length,s.next⟩ μ2 G) (w':=u5 C ⟨FO st.next st1.own++st.own,st.next+st1.next,st.ro⟩ (s.push bs) μ' G) rfl rfl b
   cases ob1 with
   |box t e' l=>exact ⟨m3.1,m3.2.1,m3.2.2.1,eJ (w':=u5 C ⟨FO st.next st1.own++st.own,st.next+st1.next,st.ro⟩ (s.push bs) μ' G) (k:=st.next) (w:=u5 (C1 C.E s w0) st1 ⟨x4 s.heap s.next bs,s.next+bs.length,s.next⟩ μ2 G) rfl rfl (Nat.le_refl _) hhi m3.2.2.2⟩
   |row t e' g z l=>exact ⟨m3.1,m3.2.1,m3.2.2.1,hD m3.2.2.2⟩
   |gro t e' z l=>exact ⟨m3.1,m3.2.1,m3.2.2.1,hD m3.2.2.2⟩
 ·intro o ob b e e2 hz
  rcases hown o ob e with ⟨ho,e1⟩|⟨o1,ob1,rfl,e1,rfl⟩
  ·obtain ⟨q1,q2⟩:=h.wr o ob b e1 (hlow o b ho e2) hz
   refine ⟨fun hb=>?_,q2⟩
   have:=(h.dom o b (hlow o b ho e2)).1
   rcases hG b hb with hb|hb
   ·exact q1 hb
   ·omega
  ·rw[aY8] at hz
   have e3:=hhi o1 b e2
   have hb:=h1.pb o1 b e3 (by rw[hro];exact Nat.zero_le _)
   simp only at hb
   exact ⟨(h1.wr o1 ob1 b e1 e3 hz).1,fun _=>⟨by have:=h.pr;simp only[St.push];omega,fun hu=>by have:=(h.un b hu).1;have:=h.n0;omega⟩⟩
 ·intro o ob b e e2 hz
  rcases hown o ob e with ⟨ho,e1⟩|⟨o1,ob1,rfl,e1,rfl⟩
  ·exact hFG b (h.fz o ob b e1 (hlow o b ho e2) hz)
  ·rw[aY8] at hz
   exact h1.fz o1 ob1 b e1 (hhi o1 b e2) hz
 ·intro o o' b e e'
  rcases hmu o b e with ⟨_,a1,a2⟩|⟨o1,rfl,a1,a2⟩<;>rcases hmu o' b e' with ⟨_,b1,b2⟩|⟨o2,rfl,b1,b2⟩
  ·exact h.inj o o' b a1 b1
  ·omega
  ·omega
  ·rw[h1.inj o1 o2 b a1 b1]
 ·intro o b e
  rcases hmu o b e with ⟨ho,a1,a2⟩|⟨o1,rfl,a1,a2⟩
  ·obtain ⟨d1,d2,ob,d3,d4⟩:=h.dom o b a1
   exact ⟨by simp only[St.push];omega,by simp only;omega,ob,hgl o ob ho d3,d4⟩
  ·obtain ⟨d1,d2,ob,d3,d4⟩:=h1.dom o1 b a1
   exact ⟨d1,by simp only;omega,_,hgh o1 ob d3,by rw[QT];exact d4⟩
 ·exact h1.lt
 ·exact h1.cl
 ·intro b hb
  obtain ⟨u1,u2⟩:=h.un b hb
  exact ⟨u1,by simp only[St.push];rw[d9 b (by have:=h.n0;omega)];exact u2⟩
 ·have:=h.n0;simp only[St.push];omega
 ·intro o ob e
  rcases hown o ob e with ⟨ho,e1⟩|⟨o1,ob1,rfl,e1,rfl⟩
  ·exact ⟨by simp only;omega,(h.own o ob e1).2⟩
  ·obtain ⟨q1,q2⟩:=h1.own o1 ob1 e1
   exact ⟨by simp only;omega,by rw[bW5];exact q2⟩
 ·exact h1.hb
 ·have:=h.pr;simp only[St.push];omega
 ·intro o b e hr
  rcases hmu o b e with ⟨ho,a1,a2⟩|⟨o1,rfl,a1,a2⟩
  ·exact h.pb o b a1 hr
  ·have:=h.pr;simp only[St.push];omega
theorem vN {f:FuncId} {xs xs':List V} {v:V} {st1:l8} {Q:V→l8→Prop} (h:m6 C.E f xs' v st1) (hs:J7 st.own xs=some xs') (hrow:E1 st.ro st.own (Z5 xs)=true) (hro:st1.ro=0)
  (hq:Q (BF st.next v) ⟨FO st.next st1.own++C0 (Z5 xs) st.own,st.next+st1.next,st.ro⟩):W2 C f xs st Q:=by
 refine ⟨_,_,hq,fun s μ F xsI hsr hx hp=>?_⟩
 obtain ⟨a1,a2⟩:=hsr.snaps hx hs
 obtain ⟨vI,bs,μ2,G,e,g1,g2,g3,g4,_⟩:=h s _ xsI a1 hsr.hb a2
 obtain ⟨f1,f2⟩:=hsr.freeze hrow
 obtain ⟨μ',j1,j2,j3⟩:=f1.join g1 hro g3 g4
 refine ⟨vI,s.push bs,μ',G,by simp only[callI,e],j1,j3 g2,f2.trans j2,rfl,by simp[St.push],fun b hb=>?_⟩
 rcases g3 b hb with hb|hb
 ·exact hsr.fin_ge hrow hb
 ·exact .inr (Nat.le_trans hsr.pr hb)
end
mutual
def aD (ρ:List (Nat × Nat)):V→V
 | .ref o i n c=>match f8 ρ o with|some j=> .ref j i n c|none=> .dead
 | .gr s o n=>match f8 ρ o with|some j=> .gr s j n|none=> .dead
 | .ptr o i=>match f8 ρ o with|some j=> .ptr j i|none=> .dead
 | .tok o=>match f8 ρ o with|some j=> .tok j|none=> .dead
 | .agg l=> .agg (gY ρ l)
 | .tup l=> .tup (gY ρ l)
 | .fn f a b=> .fn f (gY ρ a) (gY ρ b)
 | .ifc t v=> .ifc t (aD ρ v)
 |v=>v
def gY (ρ:List (Nat × Nat)):List V→List V
 | []=> []
 |v::r=>aD ρ v::gY ρ r
end
def aH3 (ρ:List (Nat × Nat)):Obj→Obj
 | .box t e l=> .box t e (gY ρ l)
 |o=>o
def yT (ρ:List (Nat × Nat)):D7→D7
 | []=> []
 |(t,v)::r=>(t,aD ρ v)::yT ρ r
def BS (ρ:List (Nat × Nat)) (H:E4):List (Nat × Nat)→E4
 | []=> []
 |(i,j)::r=>match f8 H i with
   |some o=>(j,aH3 ρ o)::BS ρ H r
   |none=>BS ρ H r
def YW (j:Nat):List (Nat × Nat)→Bool
 | []=>true
 |(_,k)::r=> !Nat.beq j k && YW j r
def JI (j:Nat):List (Nat × Nat)→Bool
 | []=>true
 |(k,_)::r=> !Nat.beq j k && JI j r
def OT (base ro k:Nat):List (Nat × Nat)→Bool
 | []=>true
 |(i,j)::r=>YW j r && JI i r && Nat.blt j k && (Nat.ble base j||Nat.beq i j) && (!Nat.ble ro j||Nat.ble ro i) && OT base ro k r
section
variable {C:C5} {st:l8} {s:St} {μ:Nat→Option Nat} {F:Nat→Prop}
theorem xX {j:Nat}:∀ {r:List (Nat × Nat)},YW j r=true→∀ i,(i,j) ∉ r
 | [],_,i,h=>by cases h
 |(a,b)::r,hn,i,h=>by
  simp only[YW,Bool.and_eq_true,Bool.not_eq_true',SW] at hn
  rcases List.mem_cons.1 h with h|h
  ·cases h;exact hn.1 rfl
  ·exact xX hn.2 i h
theorem rQ {i:Nat}:∀ {r:List (Nat × Nat)},JI i r=true→∀ j,(i,j) ∉ r
 | [],_,j,h=>by cases h
 |(a,b)::r,hn,j,h=>by
  simp only[JI,Bool.and_eq_true,Bool.not_eq_true',SW] at hn
  rcases List.mem_cons.1 h with h|h
  ·cases h;exact hn.1 rfl
  ·exact rQ hn.2 j h
theorem R0 {base ro k:Nat}:∀ {r:List (Nat × Nat)},OT base ro k r=true→∀ i j,(i,j) ∈ r→j<k∧(base≤j∨i=j)∧(ro≤j→ro≤i)∧(∀ i',(i',j) ∈ r→i'=i)∧∀ j',(i,j') ∈ r→j'=j
 | [],_,i,j,h=>by cases h
 |(a,b)::r,hk,i,j,h=>by
  simp only[OT,Bool.and_eq_true,Bool.or_eq_true,Bool.not_eq_true',Nat.blt_eq,Nat.ble_eq] at hk
  obtain ⟨⟨⟨⟨⟨h1,h2⟩,h3⟩,h4⟩,h5⟩,h6⟩:=hk
  have h4':base≤b∨a=b:=h4.imp id i6.1
  have h5':ro≤b→ro≤a:=fun hb=>by
   rcases h5 with h5|h5
   ·have:Nat.ble ro b=true:=by rw[Nat.ble_eq];exact hb
    rw[this] at h5;cases h5
   ·exact h5
  rcases List.mem_cons.1 h with h|h
  ·cases h
   refine ⟨h3,h4',h5',fun i' hi=>?_,fun j' hj=>?_⟩
   ·rcases List.mem_cons.1 hi with hi|hi
    ·cases hi;rfl
    ·exact (xX h1 i' hi).elim
   ·rcases List.mem_cons.1 hj with hj|hj
    ·cases hj;rfl
    ·exact (rQ h2 j' hj).elim
  ·obtain ⟨q1,q2,q3,q4,q5⟩:=R0 h6 i j h
   refine ⟨q1,q2,q3,fun i' hi=>?_,fun j' hj=>?_⟩
   ·rcases List.mem_cons.1 hi with hi|hi
    ·cases hi;exact (xX h1 i h).elim
    ·exact q4 i' hi
   ·rcases List.mem_cons.1 hj with hj|hj
    ·cases hj;exact (rQ h2 j h).elim
    ·exact q5 j' hj
theorem KV:∀ {r:List (Nat × Nat)} {i j:Nat},f8 r i=some j→(i,j) ∈ r
 | [],i,j,h=>by cases h
 |(a,b)::r,i,j,h=>by
  rw[k7] at h
  split at h
  ·rename_i e;cases h;subst e;exact List.mem_cons_self
  ·exact List.mem_cons_of_mem _ (KV h)
mutual
theorem AV {ρ:List (Nat × Nat)} {w w':VW} (h1:w'.ld=w.ld) (h2:w'.F=w.F) (h3:∀ i j,f8 ρ i=some j→j<w'.nx∧∀ b,w'.μ j=some b→w.μ i=some b):∀ {v:V} {vI:Value},b7 w v vI→b7 w' (aD ρ v) vI
 | .sc x,vI,h=>by simp only[aD,b7] at h ⊢;exact h
 | .sl s n l,vI,h=>by simp only[aD,b7] at h ⊢;exact h.sw h1 h2
 | .slk s n c l,vI,h=>by
  simp only[aD,b7] at h ⊢
  refine ⟨h.1,h.2.1,h.2.2.imp ?_ id⟩
  rintro ⟨a,e,i,r⟩
  exact ⟨a,e,iV h2 i,r.sw h1 h2⟩
 | .dp l o,vI,h=>by
  simp only[aD,b7] at h ⊢
  obtain ⟨a,e,i,r⟩:=h
  exact ⟨a,e,iV h2 i,r.sw h1 h2⟩
 | .ref o i n c,vI,h=>by
  simp only[aD]
  cases ho:f8 ρ o with
  |none=>simp only[b7]
  |some j=>
   simp only[b7] at h ⊢
   obtain ⟨q1,q2,b',e,q3⟩:=h
   exact ⟨(h3 o j ho).1,q2,b',e,fun b hb=>q3 b ((h3 o j ho).2 b hb)⟩
 | .gr s o n,vI,h=>by
  simp only[aD]
  cases ho:f8 ρ o with
  |none=>simp only[b7]
  |some j=>
   simp only[b7] at h ⊢
   obtain ⟨q1,q2⟩:=h
   refine ⟨(h3 o j ho).1,q2.imp (And.imp id (Or.imp id (And.imp id ?_))) ?_⟩
   ·rintro ⟨a,c,e,i⟩
    exact ⟨a,c,e,iV h2 i⟩
   ·rintro ⟨hn,b',e,q3⟩
    exact ⟨hn,b',e,fun b hb=>q3 b ((h3 o j ho).2 b hb)⟩
 | .ptr o i,vI,h=>by
  simp only[aD]
  cases ho:f8 ρ o with
  |none=>simp only[b7]
  |some j=>
   simp only[b7] at h ⊢
   obtain ⟨q1,b',e,q3⟩:=h
   exact ⟨(h3 o j ho).1,b',e,fun b hb=>q3 b ((h3 o j ho).2 b hb)⟩
 | .agg l,vI,h=>by
  simp only[aD,b7] at h ⊢
  obtain ⟨vs,e,h⟩:=h
  exact ⟨vs,e,bL h1 h2 h3 h⟩
 | .tup l,vI,h=>by
  simp only[aD,b7] at h ⊢
  obtain ⟨vs,e,h⟩:=h
  exact ⟨vs,e,bL h1 h2 h3 h⟩
 | .fn f a b,vI,h=>by
  simp only[aD,b7] at h ⊢
  obtain ⟨as,bs,e,q1,q2⟩:=h
  exact ⟨as,bs,e,bL h1 h2 h3 q1,bL h1 h2 h3 q2⟩
 | .ifc t u,vI,h=>by
  simp only[aD,b7] at h ⊢
  obtain ⟨x,e,h⟩:=h
  exact ⟨x,e,AV h1 h2 h3 h⟩
 | .dead,vI,h=>by simp only[aD,b7]
 | .tok o,vI,h=>by
  simp only[aD]
  cases ho:f8 ρ o with
  |none=>simp only[b7]
  |some j=>
   simp only[b7] at h ⊢
   obtain ⟨q1,b',e,q3⟩:=h
   exact ⟨(h3 o j ho).1,b',e,fun b hb=>q3 b ((h3 o j ho).2 b hb)⟩
theorem bL {ρ:List (Nat × Nat)} {w w':VW} (h1:w'.ld=w.ld) (h2:w'.F=w.F) (h3:∀ i j,f8 ρ i=some j→j<w'.nx∧∀ b,w'.μ j=some b→w.μ i=some b):∀ {l:List V} {vs:List Value},d8 w l vs→d8 w' (gY ρ l) vs
 | [],vs,h=>by simp only[gY,d8] at h ⊢;exact h
 |v::r,vs,h=>by
  simp only[gY,d8] at h ⊢
  obtain ⟨u,us,e,q1,q2⟩:=h
  exact ⟨u,us,e,AV h1 h2 h3 q1,bL h1 h2 h3 q2⟩
end
theorem dZ {ρ:List (Nat × Nat)} {H:E4}:∀ (r:List (Nat × Nat)) (j:Nat) (o:Obj),f8 (BS ρ H r) j=some o→∃ i ob,(i,j) ∈ r∧f8 H i=some ob∧o=aH3 ρ ob
 | [],j,o,h=>by cases h
 |(a,b)::r,j,o,h=>by
  simp only[BS] at h
  split at h
  ·rename_i ob ha
   rw[k7] at h
   split at h
   ·rename_i e;cases h;subst e;exact ⟨a,ob,List.mem_cons_self,ha,rfl⟩
   ·obtain ⟨i,ob',h1,h2⟩:=dZ r j o h
    exact ⟨i,ob',List.mem_cons_of_mem _ h1,h2⟩
  ·obtain ⟨i,ob',h1,h2⟩:=dZ r j o h
   exact ⟨i,ob',List.mem_cons_of_mem _ h1,h2⟩
theorem PZ {ρ:List (Nat × Nat)} {H:E4}:∀ (r:List (Nat × Nat)) (i j:Nat) (ob:Obj),(i,j) ∈ r→(∀ i',(i',j) ∈ r→i'=i)→f8 H i=some ob→f8 (BS ρ H r) j=some (aH3 ρ ob)
 | [],i,j,ob,h,_,_=>by cases h
 |(a,b)::r,i,j,ob,h,hu,ho=>by
  simp only[BS]
  by_cases hb:b=j
  ·subst hb
   have:=hu a List.mem_cons_self
   subst this
   rw[ho]
   simp only
   rw[k7,if_pos rfl]
  ·have hr:(i,j) ∈ r:=by
    rcases List.mem_cons.1 h with h|h
    ·cases h;exact absurd rfl hb
    ·exact h
   have ih:=PZ (ρ:=ρ) r i j ob hr (fun i' hi=>hu i' (List.mem_cons_of_mem _ hi)) ho
   split
   ·rw[k7,if_neg (fun e=>hb e.symm)];exact ih
   ·exact ih
theorem EV (ρ:List (Nat × Nat)) (o:Obj):(aH3 ρ o).none=o.none:=by
 cases o with
 |gro t e z l=>cases l<;>rfl
 |_=>rfl
theorem ZU (ρ:List (Nat × Nat)) (o:Obj):(aH3 ρ o).fz=o.fz:=by cases o<;>rfl
theorem bJ2 (ρ:List (Nat × Nat)) (o:Obj):(aH3 ρ o).ok=o.ok:=by cases o<;>rfl
theorem PY (ρ:List (Nat × Nat)):∀ (fr:D7) (t:Nat),f8 (yT ρ fr) t=(f8 fr t).map (aD ρ)
 | [],t=>rfl
 |(j,v)::r,t=>by
  simp only[yT]
  rw[k7,k7,PY ρ r t]
  split<;>rfl
theorem SM (ρ:List (Nat × Nat)) (k:Nat) {fr:D7} (hb:C.w0.nx≤k) (hk:OT C.w0.nx st.ro k ρ=true):M3 C fr st (yT ρ fr) ⟨BS ρ st.own ρ,k,st.ro⟩:=by
 rintro s frI ⟨μ,F,h,hf,h3,h4,h5⟩
 let back:Nat→Option Nat:=fun j=>(ρ.find? fun p=>Nat.beq p.2 j).map (·.1)
 let μ':Nat→Option Nat:=fun j=>(back j).bind μ
 have hback:∀ j i,back j=some i→(i,j) ∈ ρ:=fun j i e=>by
  simp only[back,Option.map_eq_some_iff] at e
  obtain ⟨⟨a,b⟩,e1,rfl⟩:=e
  have:=List.find?_some e1
  have hb:=i6.1 this
  simp only at hb
  subst hb
  exact List.mem_of_find?_eq_some e1
 have hmk:∀ i j,(i,j) ∈ ρ→back j=some i:=fun i j hm=>by
  cases e:back j with
  |none=>
   simp only[back,Option.map_eq_none_iff,List.find?_eq_none] at e
   exact absurd (i6.2 rfl) (e (i,j) hm)
  |some i'=>rw[((R0 hk i j hm).2.2.2.1 i' (hback j i' e))]
 have hmu:∀ j b,μ' j=some b→∃ i,(i,j) ∈ ρ∧μ i=some b:=fun j b e=>by
  simp only[μ',Option.bind_eq_some_iff] at e
  obtain ⟨i,e1,e2⟩:=e
  exact ⟨i,hback j i e1,e2⟩
 have hmu2:∀ i j,(i,j) ∈ ρ→μ' j=μ i:=fun i j hm=>by simp only[μ'];rw[hmk i j hm];rfl
 have d9:∀ i j,f8 ρ i=some j→(i,j) ∈ ρ:=fun i j e=>KV e
 have hv3:∀ i j,f8 ρ i=some j→j<k∧∀ b,μ' j=some b→μ i=some b:=fun i j e=>⟨(R0 hk i j (d9 i j e)).1,fun b hb=>by rw[← hmu2 i j (d9 i j e)];exact hb⟩
 let w':VW:=⟨m9 C.E s.heap,F,μ',k⟩
 have hrep:∀ {v:V} {vI:Value},b7 (u5 C st s μ F) v vI→b7 w' (aD ρ v) vI:=fun hv=>AV (w:=u5 C st s μ F) (w':=w') rfl rfl hv3 hv
 have hrepL:∀ {l:List V} {vs:List Value},d8 (u5 C st s μ F) l vs→d8 w' (gY ρ l) vs:=fun hv=>bL (w:=u5 C st s μ F) (w':=w') rfl rfl hv3 hv
 have hD:∀ {l:List D} {vs:List Value},j6 (u5 C st s μ F) l vs→j6 w' l vs:=fun {l vs} hl=>j6.of hl.length fun i d v q1 q2=>by
  obtain ⟨v',a,b⟩:=hl.get i d q1
  rw[q2] at a;cases a
  exact u7.sw (w:=u5 C st s μ F) (w':=w') rfl rfl b
 refine ⟨μ',F,⟨?_,?_,?_,?_,?_,h.lt,h.cl,h.un,h.n0,?_,h.hb,h.pr,?_⟩,?_,⟨h3.ld,h3.F,hb,?_⟩,h4,h5⟩
 ·intro j o e hn
  obtain ⟨i,ob,hm,ho,rfl⟩:=dZ ρ j o e
  rw[EV] at hn
  obtain ⟨b,blk,m1,m2,m3⟩:=h.obj i ob ho hn
  refine ⟨b,blk,by rw[hmu2 i j hm];exact m1,m2,?_⟩
  cases ob with
  |box t e' l=>exact ⟨m3.1,m3.2.1,m3.2.2.1,hrepL m3.2.2.2⟩
  |row t e' g z l=>exact ⟨m3.1,m3.2.1,m3.2.2.1,hD m3.2.2.2⟩
  |gro t e' z l=>exact ⟨m3.1,m3.2.1,m3.2.2.1,hD m3.2.2.2⟩
 ·intro j o b e e2 hz
  obtain ⟨i,ob,hm,ho,rfl⟩:=dZ ρ j o e
  rw[ZU] at hz
  rw[hmu2 i j hm] at e2
  obtain ⟨q1,q2⟩:=h.wr i ob b ho e2 hz
  exact ⟨q1,fun hro=>q2 ((R0 hk i j hm).2.2.1 hro)⟩
 ·intro j o b e e2 hz
  obtain ⟨i,ob,hm,ho,rfl⟩:=dZ ρ j o e
  rw[ZU] at hz
  rw[hmu2 i j hm] at e2
  exact h.fz i ob b ho e2 hz
 ·intro j j' b e e'
  obtain ⟨i,hm,e1⟩:=hmu j b e
  obtain ⟨i',hm',e1'⟩:=hmu j' b e'
  have:=h.inj i i' b e1 e1'
  subst this
  exact ((R0 hk i j hm).2.2.2.2 j' hm').symm
 ·intro j b e
  obtain ⟨i,hm,e1⟩:=hmu j b e
  obtain ⟨d1,d2,ob,d3,d4⟩:=h.dom i b e1
  exact ⟨d1,(R0 hk i j hm).1,_,PZ ρ i j ob hm (R0 hk i j hm).2.2.2.1 d3,by rw[EV];exact d4⟩
 ·intro j o e
  obtain ⟨i,ob,hm,ho,rfl⟩:=dZ ρ j o e
  exact ⟨(R0 hk i j hm).1,by rw[bJ2];exact (h.own i ob ho).2⟩
 ·intro j b e hro
  obtain ⟨i,hm,e1⟩:=hmu j b e
  exact h.pb i b e1 ((R0 hk i j hm).2.2.1 hro)
 ·intro t v e
  rw[PY,Option.map_eq_some_iff] at e
  obtain ⟨u,e1,rfl⟩:=e
  obtain ⟨vI,a,b⟩:=hf t u e1
  exact ⟨vI,a,hrep b⟩
 ·intro j b hj e
  obtain ⟨i,hm,e1⟩:=hmu j b e
  have hij:i=j:=by
   rcases (R0 hk i j hm).2.1 with h'|h'
   ·omega
   ·exact h'
  subst hij
  exact h3.μ i b hj e1
theorem M3.trans {fr fr' fr2:D7} {st' st2:l8} (h:M3 C fr st fr' st') (k:M3 C fr' st' fr2 st2):M3 C fr st fr2 st2:=fun s frI hr=>k s frI (h s frI hr)
theorem SL (fr:D7) (t e:Nat):M3 C fr st fr ⟨(st.next,.gro t e false [])::st.own,st.next+1,st.ro⟩:=by
 rintro s frI ⟨μ,F,h,hf,h3,h4,h5⟩
 have hle:VW.le (u5 C st s μ F) (u5 C ⟨(st.next,.gro t e false [])::st.own,st.next+1,st.ro⟩ s μ F):=⟨fun _ _=>rfl,fun _ h=>h,Nat.le_succ _,fun _ _ _ e=>e⟩
 have hown:∀ i ob,f8 ((st.next,Obj.gro t e false [])::st.own) i=some ob→(i=st.next∧ob= .gro t e false [])∨(i ≠ st.next∧f8 st.own i=some ob):=fun i ob e=>by
  rw[k7] at e
  split at e
  ·rename_i hi;cases e;exact .inl ⟨hi,rfl⟩
  ·rename_i hi;exact .inr ⟨hi,e⟩
 have hne:∀ i b,μ i=some b→i ≠ st.next:=fun i b e=>Nat.ne_of_lt (h.dom i b e).2.1
 refine ⟨μ,F,⟨?_,?_,?_,h.inj,?_,h.lt,h.cl,h.un,h.n0,?_,h.hb,h.pr,h.pb⟩,hf.mono hle,h3.trans hle,h4,h5⟩
 ·intro i ob e hn
  rcases hown i ob e with ⟨rfl,rfl⟩|⟨hi,e1⟩
  ·cases hn
  ·obtain ⟨b,blk,m1,m2,m3⟩:=h.obj i ob e1 hn
   exact ⟨b,blk,m1,m2,m3.mono hle⟩
 ·intro i ob b e e2 hz
  rcases hown i ob e with ⟨rfl,rfl⟩|⟨hi,e1⟩
  ·exact absurd rfl (hne _ b e2)
  ·exact h.wr i ob b e1 e2 hz
 ·intro i ob b e e2 hz
  rcases hown i ob e with ⟨rfl,rfl⟩|⟨hi,e1⟩
  ·exact absurd rfl (hne _ b e2)
  ·exact h.fz i ob b e1 e2 hz
 ·intro i b e
  obtain ⟨d1,d2,ob,d3,d4⟩:=h.dom i b e
  exact ⟨d1,by simp only;omega,ob,by rw[k7,if_neg (hne i b e)];exact d3,d4⟩
 ·intro i ob e
  rcases hown i ob e with ⟨rfl,rfl⟩|⟨hi,e1⟩
  ·exact ⟨by simp,rfl⟩
  ·exact ⟨by have:=(h.own i ob e1).1;simp only;omega,(h.own i ob e1).2⟩
def Z1 (C:C5) (st:l8) (v v':V):Prop:=∀ s μ F vI,SR C st s μ F→b7 (u5 C st s μ F) v vI→b7 (u5 C st s μ F) v' vI
theorem M2 {fr:D7} {t:Nat} {v v':V} (h:f8 fr t=some v) (hv:Z1 C st v v'):M3 C fr st (qL fr t v') st:=by
 rintro s frI ⟨μ,F,h1,hf,h3⟩
 refine ⟨μ,F,h1,fun i u e=>?_,h3⟩
 rw[jZ] at e
 split at e
 ·rename_i hi
  cases e
  subst hi
  obtain ⟨vI,a,b⟩:=hf _ v h
  exact ⟨vI,a,hv s μ F vI h1 b⟩
 ·exact hf i u e
theorem QN {o t e:Nat} {z:Bool} (h:o<st.next):Z1 C st (.sc (.slice none 0 0)) (.gr 2 o 0):=fun s μ F vI hs hv=>by
 rw[hv.scv]
 simp only[b7]
 exact ⟨h,.inl ⟨by trivial,.inl (by trivial)⟩⟩
theorem GW {fr:D7} {o t e k:Nat} {l:List V} {v v':V} (h:f8 st.own o=some (.box t e l)) (hk:l[k]? =some v) (hv:Z1 C st v v'):M3 C fr st fr ⟨A3 st.own o (.box t e (l.set k v')),st.next,st.ro⟩:=by
 rintro s frI ⟨μ,F,h1,hf,h3⟩
 have hown:∀ i ob,f8 (A3 st.own o (.box t e (l.set k v'))) i=some ob→(i=o∧ob= .box t e (l.set k v'))∨(i ≠ o∧f8 st.own i=some ob):=fun i ob e'=>by
  rw[O3 _ _ _ _ _ h] at e'
  split at e'
  ·rename_i hi;cases e';exact .inl ⟨hi,rfl⟩
  ·rename_i hi;exact .inr ⟨hi,e'⟩
 refine ⟨μ,F,⟨?_,?_,?_,h1.inj,?_,h1.lt,h1.cl,h1.un,h1.n0,?_,h1.hb,h1.pr,h1.pb⟩,hf,h3⟩
 ·intro i ob e' hn
  rcases hown i ob e' with ⟨rfl,rfl⟩|⟨hi,e1⟩
  ·obtain ⟨b,blk,m1,m2,m3⟩:=h1.obj i _ h rfl
   refine ⟨b,blk,m1,m2,m3.1,m3.2.1,m3.2.2.1,?_⟩
   refine d8.of (by rw[m3.2.2.2.length];simp) fun j d u q1 q2=>?_
   rw[List.getElem?_set] at q1
   split at q1
   ·rename_i hj
    split at q1
    ·cases q1
     subst hj
     obtain ⟨u',a,b'⟩:=m3.2.2.2.get _ v hk
     rw[q2] at a;cases a
     exact hv s μ F u h1 b'
    ·cases q1
   ·obtain ⟨u',a,b'⟩:=m3.2.2.2.get j d q1
    rw[q2] at a;cases a
    exact b'
  ·exact h1.obj i ob e1 hn
 ·intro i ob b e' e2 hz
  rcases hown i ob e' with ⟨rfl,rfl⟩|⟨hi,e1⟩
  ·exact h1.wr i _ b h e2 rfl
  ·exact h1.wr i ob b e1 e2 hz
 ·intro i ob b e' e2 hz
  rcases hown i ob e' with ⟨rfl,rfl⟩|⟨hi,e1⟩
  ·cases hz
  ·exact h1.fz i ob b e1 e2 hz
 ·intro i b e'
  obtain ⟨d1,d2,ob,d3,d4⟩:=h1.dom i b e'
  by_cases hi:i=o
  ·subst hi;exact ⟨d1,d2,_,by simp only;rw[O3 _ _ _ _ _ h,if_pos rfl],rfl⟩
  ·exact ⟨d1,d2,ob,by simp only;rw[O3 _ _ _ _ _ h,if_neg hi];exact d3,d4⟩
 ·intro i ob e'
  rcases hown i ob e' with ⟨rfl,rfl⟩|⟨hi,e1⟩
  ·exact ⟨(h1.own i _ h).1,rfl⟩
  ·exact h1.own i ob e1
theorem eK {fr:D7} {t:Nat} {v v':V} (h:f8 fr t=some v) (hs:x7 st.own v=some v') (hrow:E1 st.ro st.own (cT v)=true):M3 C fr st (qL fr t v') ⟨C0 (cT v) st.own,st.next,st.ro⟩:=by
 rintro s frI ⟨μ,F,h1,hf,h3,h4,h5⟩
 obtain ⟨f1,f2⟩:=h1.freeze hrow
 refine ⟨μ,_,f1,fun i u e=>?_,h3.trans f2,h4,fun b hb=>?_⟩
 ·rw[jZ] at e
  split at e
  ·rename_i hi
   cases e
   subst hi
   obtain ⟨vI,a,b⟩:=hf _ v h
   refine ⟨vI,a,?_⟩
   have:=JZ (w2:=YV C.E s.heap (aQ μ F (cT v))) h1.hr f2 rfl rfl b hs (fun o ho b e=> .inr ⟨o,ho,e⟩) (fun o ho b e k sp blk hb=>kD (E:=C.E) hb)
   refine b7.mono (w:=YV C.E s.heap (aQ μ F (cT v))) (w':=u5 C ⟨C0 (cT v) st.own,st.next,st.ro⟩ s μ (aQ μ F (cT v))) ⟨fun _ _=>rfl,fun _ h=>h,Nat.zero_le _,fun o b ho e=>?_⟩ this
   exact absurd ho (Nat.not_lt_zero _)
  ·obtain ⟨vI,a,b⟩:=hf i u e
   exact ⟨vI,a,b7.mono f2 b⟩
 ·rcases h1.fin_ge hrow hb with hb|hb
  ·exact h5 b hb
  ·exact .inr (by rw[← h4];exact hb)
end
def gK (C:C5):List KF→Ex→D7→l8→A8→Prop
 | [],ex,fr,st,P=>P ex fr st
 | .seq b::K,.normal,fr,st,P=>KL C b fr st fun ex fr st=>gK C K ex fr st P
 | .seq _::K,ex,fr,st,P=>gK C K ex fr st P
 | .block id::K,.exit i,fr,st,P=>if i=id then gK C K .normal fr st P else gK C K (.exit i) fr st P
 | .block _::K,ex,fr,st,P=>gK C K ex fr st P
def gC (C:C5) (c:AC) (K:List KF) (fr:D7) (st:l8) (P:A8):Prop:=KL C c fr st fun ex fr st=>gK C K ex fr st P
def gO (C:C5) (l:List i7) (ks:List Nat) (K:List KF) (fr:D7) (st:l8) (P:A8):Prop:=wpO C l fr st fun fr st=>gK C K .normal (C9 ks fr) st P
def gS (C:C5) (r:Option (V × l8)) (d:Option Nat) (l:List i7) (ks:List Nat) (K:List KF) (fr:D7) (P:A8):Prop:=
 match r with|some (v,st')=>gO C l ks K (u9 fr d v) st' P|none=>False
def gV (C:C5) (r:VO) (o:K3) (st:l8) (d:Option Nat) (l:List i7) (ks:List Nat) (K:List KF) (fr:D7) (P:A8):Prop:=
 match r with
 |some (v,ob,fz)=>gS C (if E1 st.ro st.own fz then some (v,st.push ob fz) else none) d l ks K fr P
 |none=>gS C (Q1 fr st o) d l ks K fr P
def tE (C:C5) (f:FuncId) (xs:Option (List V)) (st:l8) (d:Option Nat) (l:List i7) (ks:List Nat) (K:List KF) (fr:D7) (P:A8):Prop:=
 match xs with|some vs=>W2 C f vs st fun v st'=>gO C l ks K (u9 fr d v) st' P|none=>False
def aQ8 (C:C5) (x:Option V) (xs:Option (List V)) (st:l8) (d:Option Nat) (l:List i7) (ks:List Nat) (K:List KF) (fr:D7) (P:A8):Prop:=
 match x,xs with
 |some g,some vs=>(match aF g vs with|some (f,ws)=>tE C f (some ws) st d l ks K fr P|none=>HT C g vs st fun v st'=>gO C l ks K (u9 fr d v) st' P)
 |_,_=>False
def DI (C:C5) (ms:List (TypeId × FuncId)) (x:Option V) (xs:Option (List V)) (st:l8) (d:Option Nat) (l:List i7) (ks:List Nat) (K:List KF) (fr:D7) (P:A8):Prop:=
 match x,xs with
 |some g,some vs=>(match fB ms g vs with|some (f,ws)=>tE C f (some ws) st d l ks K fr P|none=>False)
 |_,_=>False
def gG (C:C5) (v:Option V) (want:Bool) (d:Option Nat) (o:K3) (l:List i7) (ks:List Nat) (K:List KF) (fr:D7) (st:l8) (P:A8):Prop:=
 match v with
 |some (.sc (.bool b))=>if b==want then gO C (⟨d,none,o⟩::l) ks K fr st P else gO C l ks K (u9 fr d (.tup [])) st P
 |some (.tup _)=>gO C l ks K (u9 fr d (.tup [])) st P
 |_=>False
def gI (C:C5) (v:Option V) (t e:AC) (K:List KF) (fr:D7) (st:l8) (P:A8):Prop:=
 match v with
 |some (.sc (.bool b))=>if b then gC C t K fr st P else gC C e K fr st P
 |_=>False
def gL (C:C5) (ks:List Nat) (b:AC) (K:List KF) (fr:D7) (st:l8) (P:A8):Prop:=DV C (A4 C.E (.loop ks b)) fr st fun ex fr st=>gK C K ex fr st P
def gP (C:C5) (l:List i7) (hid:List (List Bool)) (vds:List (Nat × Bool)) (tail:List i7) (ks:List Nat) (K:List KF) (fr:D7) (st:l8) (P:A8):Prop:=
 wpP C l hid vds fr st fun fr st=>gO C tail ks K fr st P
def gPV (C:C5) (r:VO) (d:Option Nat) (l:List i7) (hid:List (List Bool)) (vds:List (Nat × Bool)) (tail:List i7) (ks:List Nat) (K:List KF) (fr:D7) (st:l8) (P:A8):Prop:=
 match r with
 |some (v,ob,fz)=>if fz.isEmpty then gP C l hid ((st.next,ob.isSome)::vds) tail ks K (u9 fr d v) (st.push ob []) P else False
 |none=>False
def gPC (C:C5) (f:FuncId) (xs:Option (List V)) (H:E4) (d:Option Nat) (l:List i7) (hid:List (List Bool)) (vds:List (Nat × Bool)) (tail:List i7) (ks:List Nat) (K:List KF) (fr:D7) (st:l8) (P:A8):Prop:=
 match xs with|some vs=>uT C f vs H st.next (fun v=>gP C l hid ((st.next,false)::vds) tail ks K (u9 fr d v) (st.push none []) P) (fun v ob=>gP C l hid ((st.next,true)::vds) tail ks K (u9 fr d v) (st.push (some ob) []) P)|none=>False
def XY (C:C5) (x:Option V) (xs:Option (List V)) (H:E4) (d:Option Nat) (l:List i7) (hid:List (List Bool)) (vds:List (Nat × Bool)) (tail:List i7) (ks:List Nat) (K:List KF) (fr:D7) (st:l8) (P:A8):Prop:=
 match x,xs with
 |some g,some vs=>(match aF g vs with|some (f,ws)=>gPC C f (some ws) H d l hid vds tail ks K fr st P|none=>False)
 |_,_=>False
def XZ (C:C5) (v:Option V) (want:Bool) (t:Nat) (d:Option Nat) (o:K3) (l:List i7) (hid:List (List Bool)) (vds:List (Nat × Bool)) (tail:List i7) (ks:List Nat) (K:List KF) (fr:D7) (st:l8) (P:A8):Prop:=
 match v with
 |some (.sc (.bool b))=>if b==want then KM C (C9 (m7 (s8 o)++ [t]) fr) (O0 st.own vds (hid.headD [])) st o (fun v ob=>gP C l hid.tail ((st.next,ob.isSome)::vds) tail ks K (u9 fr d v) (st.push ob []) P)
   else gP C l hid.tail ((st.next,false)::vds) tail ks K (u9 fr d (.tup [])) st P
 |some (.tup _)=>gP C l hid.tail ((st.next,false)::vds) tail ks K (u9 fr d (.tup [])) st P
 |_=>False
def uM:K3→Bool
 | .callF _ _=>false
 | .callV _ _=>false
 | .callI _ _ _=>false
 |_=>true
section
variable {C:C5} {K:List KF} {fr:D7} {st:l8} {P:A8}
theorem aR4 (ex:Ex):gK C [] ex fr st P=P ex fr st:=(rfl)
theorem aR5 (b:AC):gK C (.seq b::K) .normal fr st P=gC C b K fr st P:=(rfl)
theorem tF (b:AC) (i:Nat):gK C (.seq b::K) (.exit i) fr st P=gK C K (.exit i) fr st P:=(rfl)
theorem wU (b:AC):gK C (.seq b::K) .ret fr st P=gK C K .ret fr st P:=(rfl)
theorem gR (i:Nat):gK C (.block i::K) .normal fr st P=gK C K .normal fr st P:=(rfl)
theorem lO (i j:Nat):gK C (.block i::K) (.exit j) fr st P=if j=i then gK C K .normal fr st P else gK C K (.exit j) fr st P:=(rfl)
theorem oN (i:Nat):gK C (.block i::K) .ret fr st P=gK C K .ret fr st P:=(rfl)
theorem XQ:gC C .skip K fr st P=gK C K .normal fr st P:=(rfl)
theorem aQ6:gC C .ret K fr st P=gK C K .ret fr st P:=(rfl)
theorem XO (i:Nat):gC C (.exit i) K fr st P=gK C K (.exit i) fr st P:=(rfl)
theorem aQ7 (a b:AC):gC C (.seq a b) K fr st P=gC C a (.seq b::K) fr st P:=by
 unfold gC
 simp only[KL]
 congr 1
 funext ex f t
 cases ex<;>rfl
theorem NC (i:Nat) (a:AC):gC C (.block i a) K fr st P=gC C a (.block i::K) fr st P:=by
 unfold gC
 simp only[KL]
 congr 1
 funext ex f t
 cases ex<;>rfl
theorem aQ5 (l:List i7) (ks:List Nat):gC C (.ops l ks) K fr st P=gO C l ks K fr st P:=(rfl)
theorem XM (c:Operand) (t e:AC):gC C (.cond c t e) K fr st P=gI C (o9 fr c) t e K fr st P:=by
 unfold gC gI
 simp only[KL]
 rfl
theorem IQ (t e:AC):gI C (some (.sc (.bool true))) t e K fr st P=gC C t K fr st P:=(rfl)
theorem wT (t e:AC):gI C (some (.sc (.bool false))) t e K fr st P=gC C e K fr st P:=(rfl)
theorem XP (ks:List Nat) (b:AC):gC C (.loop ks b) K fr st P=gL C ks b K fr st P:=(rfl)
theorem XN (pre tail:List i7) (hid:List (List Bool)) (ks:List Nat):gC C (.draw pre tail hid ks) K fr st P=gP C pre hid [] tail ks K fr st P:=(rfl)
theorem aR6 (ks:List Nat):gO C [] ks K fr st P=gK C K .normal (C9 ks fr) st P:=(rfl)
theorem NH (d:Option Nat) (f:FuncId) (xs:List Operand) (l:List i7) (ks:List Nat):gO C (⟨d,none,.callF f xs⟩::l) ks K fr st P=tE C f (W1 fr xs) st d l ks K fr P:=(rfl)
theorem NJ (d:Option Nat) (x:Operand) (xs:List Operand) (l:List i7) (ks:List Nat):gO C (⟨d,none,.callV x xs⟩::l) ks K fr st P=aQ8 C (o9 fr x) (W1 fr xs) st d l ks K fr P:=by
 unfold gO aQ8
 simp only[wpO,nT]
 cases o9 fr x with
 |none=>rfl
 |some g=>cases W1 fr xs with
  |none=>rfl
  |some vs=>simp only;cases aF g vs<;>rfl
theorem NI (d:Option Nat) (ms:List (TypeId × FuncId)) (x:Operand) (xs:List Operand) (l:List i7) (ks:List Nat):gO C (⟨d,none,.callI ms x xs⟩::l) ks K fr st P=DI C ms (o9 fr x) (W1 fr xs) st d l ks K fr P:=by
 unfold gO DI
 simp only[wpO,nT]
 cases o9 fr x with
 |none=>rfl
 |some g=>cases W1 fr xs with
  |none=>rfl
  |some vs=>simp only;cases fB ms g vs<;>rfl
theorem XX (d:Option Nat) (o:K3) (ho:uM o=true) (l:List i7) (ks:List Nat):gO C (⟨d,none,o⟩::l) ks K fr st P=gV C (f6 C.E.old fr st.own st.next o) o st d l ks K fr P:=by
 unfold gO gV gS
 simp only[wpO]
 have:∀ Q,nT C fr st o Q=match SF C.E.old fr st o with|some (v,st')=>Q v st'|none=>False:=by
  intro Q
  cases o<;>first|rfl|cases ho
 rw[this]
 unfold SF
 cases f6 C.E.old fr st.own st.next o with
 |none=>rfl
 |some r=>
  obtain ⟨v,ob,fz⟩:=r
  rfl
theorem NK (d:Option Nat) (t:Nat) (want:Bool) (o:K3) (l:List i7) (ks:List Nat):gO C (⟨d,some (t,want),o⟩::l) ks K fr st P=gG C (f8 fr t) want d o l ks K fr st P:=(rfl)
theorem aR3 (b:Bool) (d:Option Nat) (o:K3) (l:List i7) (ks:List Nat):gG C (some (.sc (.bool b))) b d o l ks K fr st P=gO C (⟨d,none,o⟩::l) ks K fr st P:=by simp[gG]
theorem bO7 (d:Option Nat) (o:K3) (l:List i7) (ks:List Nat):gG C (some (.sc (.bool true))) false d o l ks K fr st P=gO C l ks K (u9 fr d (.tup [])) st P:=(rfl)
theorem bO6 (d:Option Nat) (o:K3) (l:List i7) (ks:List Nat):gG C (some (.sc (.bool false))) true d o l ks K fr st P=gO C l ks K (u9 fr d (.tup [])) st P:=(rfl)
theorem aR2 (a:List V) (want:Bool) (d:Option Nat) (o:K3) (l:List i7) (ks:List Nat):gG C (some (.tup a)) want d o l ks K fr st P=gO C l ks K (u9 fr d (.tup [])) st P:=(rfl)
theorem EQ (st:l8):st.push none []=st:=by simp[l8.push,z6]
theorem YH (v:V) (o:K3) (d:Option Nat) (l:List i7) (ks:List Nat):gV C (some (v,none,[])) o st d l ks K fr P=gO C l ks K (u9 fr d v) st P:=by
 unfold gV gS
 simp only[E1,if_true,EQ]
theorem aS0 (v:V) (ob:Obj) (o:K3) (d:Option Nat) (l:List i7) (ks:List Nat):gV C (some (v,some ob,[])) o st d l ks K fr P=gO C l ks K (u9 fr d v) ⟨(st.next,ob)::st.own,st.next+1,st.ro⟩ P:=by
 unfold gV gS
 simp only[E1,if_true,l8.push,z6]
theorem YF (v:V) (ob:Obj) (fz:List Nat) (hf:E1 st.ro st.own fz=true) (o:K3) (d:Option Nat) (l:List i7) (ks:List Nat):gV C (some (v,some ob,fz)) o st d l ks K fr P=gO C l ks K (u9 fr d v) ⟨(st.next,ob)::C0 fz st.own,st.next+1,st.ro⟩ P:=by
 unfold gV gS
 simp only[hf,if_true,l8.push]
theorem YG (o:K3) (d:Option Nat) (l:List i7) (ks:List Nat):gV C none o st d l ks K fr P=gS C (Q1 fr st o) d l ks K fr P:=(rfl)
theorem YE (v:V) (st':l8) (d:Option Nat) (l:List i7) (ks:List Nat):gS C (some (v,st')) d l ks K fr P=gO C l ks K (u9 fr d v) st' P:=(rfl)
theorem wS (f:FuncId) (vs:List V) (d:Option Nat) (l:List i7) (ks:List Nat):tE C f (some vs) st d l ks K fr P=W2 C f vs st fun v st'=>gO C l ks K (u9 fr d v) st' P:=(rfl)
theorem XR (f:FuncId) (a b:List V) (vs:List V) (d:Option Nat) (l:List i7) (ks:List Nat):aQ8 C (some (.fn f a b)) (some vs) st d l ks K fr P=tE C f (some (a++vs++b)) st d l ks K fr P:=(rfl)
theorem XS (f:FuncId) (a b:Array Value) (vs:List V) (d:Option Nat) (l:List i7) (ks:List Nat):aQ8 C (some (.sc (.func (.func f) a b))) (some vs) st d l ks K fr P=tE C f (some vs) st d l ks K fr P:=(rfl)
theorem ND (o:Nat) (vs:List V) (d:Option Nat) (l:List i7) (ks:List Nat):aQ8 C (some (.tok o)) (some vs) st d l ks K fr P=bN0 C o vs st (fun v st'=>gO C l ks K (u9 fr d v) st' P):=(rfl)
def gM (C:C5) (f:Option FuncId) (vs:List V) (st:l8) (d:Option Nat) (l:List i7) (ks:List Nat) (K:List KF) (fr:D7) (P:A8):Prop:=match f with|some f=>tE C f (some vs) st d l ks K fr P|none=>False
theorem XW (f:FuncId) (vs:List V) (d:Option Nat) (l:List i7) (ks:List Nat):gM C (some f) vs st d l ks K fr P=tE C f (some vs) st d l ks K fr P:=(rfl)
theorem DJ (ms:List (TypeId × FuncId)) (t:TypeId) (u:V) (vs:List V) (d:Option Nat) (l:List i7) (ks:List Nat):DI C ms (some (.ifc t u)) (some vs) st d l ks K fr P=gM C (P8 ms t) (u::vs) st d l ks K fr P:=by
 simp only[DI,fB,gM]
 cases P8 ms t<;>rfl
theorem NG (ms:List (TypeId × FuncId)) (t:TypeId) (u:Value) (vs:List V) (d:Option Nat) (l:List i7) (ks:List Nat):DI C ms (some (.sc (.iface t u))) (some vs) st d l ks K fr P=gM C (P8 ms t) (.sc u::vs) st d l ks K fr P:=by
 simp only[DI,fB,gM]
 cases P8 ms t<;>rfl
theorem aR9 (hid:List (List Bool)) (vds:List (Nat × Bool)) (tail:List i7) (ks:List Nat):gP C [] hid vds tail ks K fr st P=gO C tail ks K fr st P:=(rfl)
theorem cW (d:Option Nat) (o:K3):p9 ⟨d,none,o⟩=m7 (s8 o):=by simp[p9]
theorem BB {f:D7} {H:E4} {o:K3} (ho:uM o=true) (Q:V→Option Obj→Prop):KM C f H st o Q=match f6 C.E.old f H st.next o with|some (v,ob,fz)=>if fz.isEmpty then Q v ob else False|none=>False:=by
 cases o<;>first|rfl|cases ho
theorem YD (d:Option Nat) (o:K3) (ho:uM o=true) (l:List i7) (h:List Bool) (hid:List (List Bool)) (vds:List (Nat × Bool)) (tail:List i7) (ks:List Nat):
  gP C (⟨d,none,o⟩::l) (h::hid) vds tail ks K fr st P=gPV C (f6 C.E.old (C9 (m7 (s8 o)) fr) (O0 st.own vds h) st.next o) d l hid vds tail ks K fr st P:=by
 unfold gP gPV
 simp only[wpP,List.headD_cons,List.tail_cons,cW]
 rw[BB ho]
 cases f6 C.E.old (C9 (m7 (s8 o)) fr) (O0 st.own vds h) st.next o with
 |none=>rfl
 |some r=>obtain ⟨v,ob,fz⟩:=r;rfl
theorem NQ (d:Option Nat) (f:FuncId) (xs:List Operand) (l:List i7) (h:List Bool) (hid:List (List Bool)) (vds:List (Nat × Bool)) (tail:List i7) (ks:List Nat):
  gP C (⟨d,none,.callF f xs⟩::l) (h::hid) vds tail ks K fr st P=gPC C f (W1 (C9 (m7 xs) fr) xs) (O0 st.own vds h) d l hid vds tail ks K fr st P:=by
 unfold gP gPC
 simp only[wpP,List.headD_cons,List.tail_cons,cW,KM,s8]
 try rfl
theorem NR (d:Option Nat) (x:Operand) (xs:List Operand) (l:List i7) (h:List Bool) (hid:List (List Bool)) (vds:List (Nat × Bool)) (tail:List i7) (ks:List Nat):
  gP C (⟨d,none,.callV x xs⟩::l) (h::hid) vds tail ks K fr st P=XY C (o9 (C9 (m7 (x::xs)) fr) x) (W1 (C9 (m7 (x::xs)) fr) xs) (O0 st.own vds h) d l hid vds tail ks K fr st P:=by
 unfold gP XY gPC
 simp only[wpP,List.headD_cons,List.tail_cons,cW,KM,s8]
 cases o9 (C9 (m7 (x::xs)) fr) x with
 |none=>rfl
 |some g=>cases W1 (C9 (m7 (x::xs)) fr) xs with
  |none=>rfl
  |some vs=>simp only;cases aF g vs<;>rfl
theorem NP (v:V) (d:Option Nat) (l:List i7) (hid:List (List Bool)) (vds:List (Nat × Bool)) (tail:List i7) (ks:List Nat):gPV C (some (v,none,[])) d l hid vds tail ks K fr st P=gP C l hid ((st.next,false)::vds) tail ks K (u9 fr d v) st P:=by
 simp[gPV,EQ]
theorem YC (v:V) (ob:Obj) (d:Option Nat) (l:List i7) (hid:List (List Bool)) (vds:List (Nat × Bool)) (tail:List i7) (ks:List Nat):gPV C (some (v,some ob,[])) d l hid vds tail ks K fr st P=gP C l hid ((st.next,true)::vds) tail ks K (u9 fr d v) ⟨(st.next,ob)::st.own,st.next+1,st.ro⟩ P:=by
 simp[gPV,l8.push,z6]
theorem NL (f:FuncId) (vs:List V) (H:E4) (d:Option Nat) (l:List i7) (hid:List (List Bool)) (vds:List (Nat × Bool)) (tail:List i7) (ks:List Nat):gPC C f (some vs) H d l hid vds tail ks K fr st P=uT C f vs H st.next (fun v=>gP C l hid ((st.next,false)::vds) tail ks K (u9 fr d v) st P) (fun v ob=>gP C l hid ((st.next,true)::vds) tail ks K (u9 fr d v) ⟨(st.next,ob)::st.own,st.next+1,st.ro⟩ P):=by
 simp only[gPC,l8.push,z6]
theorem NM (f:FuncId) (a b vs:List V) (H:E4) (d:Option Nat) (l:List i7) (hid:List (List Bool)) (vds:List (Nat × Bool)) (tail:List i7) (ks:List Nat):XY C (some (.fn f a b)) (some vs) H d l hid vds tail ks K fr st P=gPC C f (some (a++vs++b)) H d l hid vds tail ks K fr st P:=(rfl)
theorem NN (f:FuncId) (a b:Array Value) (vs:List V) (H:E4) (d:Option Nat) (l:List i7) (hid:List (List Bool)) (vds:List (Nat × Bool)) (tail:List i7) (ks:List Nat):XY C (some (.sc (.func (.func f) a b))) (some vs) H d l hid vds tail ks K fr st P=gPC C f (some vs) H d l hid vds tail ks K fr st P:=(rfl)
theorem NS (d:Option Nat) (t:Nat) (want:Bool) (o:K3) (l:List i7) (h:List Bool) (hid:List (List Bool)) (vds:List (Nat × Bool)) (tail:List i7) (ks:List Nat):
  gP C (⟨d,some (t,want),o⟩::l) (h::hid) vds tail ks K fr st P=XZ C (f8 fr t) want t d o l (h::hid) vds tail ks K fr st P:=(rfl)
theorem YB (b:Bool) (t:Nat) (d:Option Nat) (o:K3) (ho:uM o=true) (l:List i7) (h:List Bool) (hid:List (List Bool)) (vds:List (Nat × Bool)) (tail:List i7) (ks:List Nat):
  XZ C (some (.sc (.bool b))) b t d o l (h::hid) vds tail ks K fr st P=gPV C (f6 C.E.old (C9 (m7 (s8 o)++ [t]) fr) (O0 st.own vds h) st.next o) d l hid vds tail ks K fr st P:=by
 unfold XZ gPV
 simp only[beq_self_eq_true,if_true,List.headD_cons,List.tail_cons]
 rw[BB ho]
theorem NO (b:Bool) (t:Nat) (d:Option Nat) (f:FuncId) (xs:List Operand) (l:List i7) (h:List Bool) (hid:List (List Bool)) (vds:List (Nat × Bool)) (tail:List i7) (ks:List Nat):
  XZ C (some (.sc (.bool b))) b t d (.callF f xs) l (h::hid) vds tail ks K fr st P=gPC C f (W1 (C9 (m7 xs++ [t]) fr) xs) (O0 st.own vds h) d l hid vds tail ks K fr st P:=by
 unfold XZ gPC
 simp only[beq_self_eq_true,if_true,List.headD_cons,List.tail_cons,KM,s8]
 try rfl
theorem aR8 (t:Nat) (d:Option Nat) (o:K3) (l:List i7) (h:List Bool) (hid:List (List Bool)) (vds:List (Nat × Bool)) (tail:List i7) (ks:List Nat):XZ C (some (.sc (.bool true))) false t d o l (h::hid) vds tail ks K fr st P=gP C l hid ((st.next,false)::vds) tail ks K (u9 fr d (.tup [])) st P:=(rfl)
theorem aR7 (t:Nat) (d:Option Nat) (o:K3) (l:List i7) (h:List Bool) (hid:List (List Bool)) (vds:List (Nat × Bool)) (tail:List i7) (ks:List Nat):XZ C (some (.sc (.bool false))) true t d o l (h::hid) vds tail ks K fr st P=gP C l hid ((st.next,false)::vds) tail ks K (u9 fr d (.tup [])) st P:=(rfl)
theorem YA (a:List V) (want:Bool) (t:Nat) (d:Option Nat) (o:K3) (l:List i7) (h:List Bool) (hid:List (List Bool)) (vds:List (Nat × Bool)) (tail:List i7) (ks:List Nat):XZ C (some (.tup a)) want t d o l (h::hid) vds tail ks K fr st P=gP C l hid ((st.next,false)::vds) tail ks K (u9 fr d (.tup [])) st P:=(rfl)
def KR (C:C5) (I:Nat→D7→l8→Prop) (m:Nat) (K:List KF) (P:A8):A8
 | .normal,fr,st=>∃ m' fr' st',m'<m∧M3 C fr st fr' st'∧I m' fr' st'
 | .exit i,fr,st=>gK C K (.exit i) fr st P
 | .ret,fr,st=>gK C K .ret fr st P
theorem oY (I m):KR C I m K P .normal fr st=∃ m' fr' st',m'<m∧M3 C fr st fr' st'∧I m' fr' st':=(rfl)
theorem xL (I m) (i:Nat):KR C I m K P (.exit i) fr st=gK C K (.exit i) fr st P:=(rfl)
theorem EF (I m):KR C I m K P .ret fr st=gK C K .ret fr st P:=(rfl)
theorem y6 {ks:List Nat} {b:AC} (I:Nat→D7→l8→Prop) (m:Nat) (hm:m<C.E.rounds) (hi:∃ fr' st',M3 C fr st fr' st'∧I m fr' st') (hround:∀ m fr st,I m fr st→gC C b [] (C9 ks fr) st (KR C I m K P)):gL C ks b K fr st P:=by
 obtain ⟨fr',st',hw,hi⟩:=hi
 refine aP3 I m fr' st' hw hi hm fun m fr st h=>?_
 have h1:=hround m fr st h
 have:(fun ex fr st=>gK C [] ex fr st (KR C I m K P))=aL6 C I m fun ex fr st=>gK C K ex fr st P:=by
  funext ex f t
  cases ex<;>rfl
 unfold gC at h1
 rw[this] at h1
 exact h1
def aL8 (C:C5) (o:Option (List V)) (st:l8) (v:V) (st1:l8):Prop:=∃ vs,o=some vs∧M3 C [(0,O1 vs)] st [(0,v)] st1
theorem FD (C:C5) (res v st1):qI C res v st1 .ret fr st=aL8 C (L0 C fr st res) st v st1:=(rfl)
theorem pQ (C:C5) (res v st1):qI C res v st1 .normal fr st=aL8 C (L0 C fr st res) st v st1:=(rfl)
theorem zA (C:C5) (vs:List V) (st:l8) (v:V) (st1:l8):aL8 C (some vs) st v st1=M3 C [(0,O1 vs)] st [(0,v)] st1:=by
 apply propext
 constructor
 ·rintro ⟨_,h,q⟩;cases h;exact q
 ·exact fun q=>⟨_,rfl,q⟩
end
def scO (x:Option Value):Option V:=x.map .sc
theorem QP (x:Value):scO (some x)=some (.sc x):=(rfl)
theorem bQ5 (v:V):vp (some v)=some (v,none,[]):=(rfl)
def ZC:Option V→Option V→Option V→Option V
 |some (.sc (.bool t)),a,b=>if t then a else b
 |_,_,_=>none
theorem ZF (a b:Option V):ZC (some (.sc (.bool true))) a b=a:=(rfl)
theorem ZE (a b:Option V):ZC (some (.sc (.bool false))) a b=b:=(rfl)
theorem ZD (t:Bool) (a b:Option V):ZC (some (.sc (.bool t))) a b=if t then a else b:=(rfl)
def bF2 (nx:Nat) (t:TypeId) (v:V):VO:=(M6 v).bind fun cs=>some (.ptr nx 0,some (.box t 1 cs),[])
theorem LJ (nx:Nat) (t:TypeId) (v:V) (h:bZ v=true):bF2 nx t v=some (.ptr nx 0,some (.box t 1 [v]),[]):=by
 cases v<;>first|rfl|cases h
theorem LI (nx:Nat) (t:TypeId) (l:List V) (h:l.all bZ=true):bF2 nx t (.agg l)=some (.ptr nx 0,some (.box t 1 l),[]):=by
 simp only[bF2,M6,h,if_true,Option.bind_some]
def HP (z:List Value) (ps:List (Nat × Nat × V)):VO:=if z.all B8 then vp ((aC (scL z) ps).map .agg) else none
theorem CF (z:List Value) (ps:List (Nat × Nat × V)) (h:z.all B8=true):HP z ps=vp ((aC (scL z) ps).map .agg):=by simp only[HP,h,if_true]
theorem GP (cs:List V):aC cs []=some cs:=(rfl)
theorem Z9 {α:Type} (v:α):∀ (cs:List α) (k:Nat),k<cs.length→D8 cs k [v]=some (cs.set k v)
 | [],k,h=>by simp at h
 |c::cs,0,h=>by cases cs<;>simp[D8]
 |c::cs,k+1,h=>by simp[D8,Z9 v cs k (by simpa using h)]
theorem fZ (v:V) (h:bZ v=true):M6 v=some [v]:=by cases v<;>first|rfl|cases h
theorem GQ (cs:List V) (o:Nat) (v:V) (r:List (Nat × Nat × V)) (hv:bZ v=true) (ho:o<cs.length):aC cs ((o,1,v)::r)=aC (cs.set o v) r:=by
 simp only[aC,fZ v hv,Option.bind_some,List.length_singleton]
 rw[if_pos (by simp only[Bool.and_eq_true,Nat.ble_eq];exact ⟨rfl,by omega⟩),Z9 _ _ _ ho]
 rfl
def VJ (l:List V) (o:Nat) (m:List V):List V:=l.take o++m++l.drop (o+m.length)
theorem pK {α:Type}:∀ (cs:List α) (k:Nat) (vs:List α),k+vs.length≤cs.length→D8 cs k vs=some (cs.take k++vs++cs.drop (k+vs.length))
 |cs,k,[],h=>by
  have:D8 cs k []=some cs:=by cases cs<;>cases k<;>rfl
  rw[this];simp
 | [],k,v::vs,h=>by simp at h
 |c::cs,0,v::vs,h=>by
  simp only[List.length_cons] at h
  simp only[D8,pK cs 0 vs (by omega),List.take_zero,List.nil_append,Option.map_some,Option.some.injEq,List.cons_append,List.length_cons,Nat.zero_add]
  rfl
 |c::cs,k+1,v::vs,h=>by
  simp only[List.length_cons] at h
  simp only[D8,pK cs k (v::vs) (by simp;omega),Option.map_some,Option.some.injEq,List.length_cons]
  rw[show k+1+(vs.length+1)=(k+(vs.length+1))+1 by omega]
  rfl
theorem GO (cs:List V) (o n:Nat) (l:List V) (r:List (Nat × Nat × V)) (hl:l.all bZ=true) (hn:Nat.beq l.length n=true) (ho:Nat.ble (o+n) cs.length=true):aC cs ((o,n,.agg l)::r)=aC (VJ cs o l) r:=by
 simp only[aC,M6,hl,if_true,Option.bind_some]
 have hn':=i6.1 hn
 rw[if_pos (by rw[hn,ho];rfl),pK _ _ _ (by rw[Nat.ble_eq] at ho;omega)]
 rfl
def N7 (nx:Nat) (t:TypeId) (e n:Nat) (z:List Value) (ps:List (Nat × Nat × V)):VO:=
 if (rep z n).all B8 && Nat.blt n v6 then (match iG (BD (rep z n)) ps with
   |some cs=>some (.ref nx 0 n n,some (.row t e false false cs),[])
   |none=>(aC (scL (rep z n)) ps).bind fun cs=>some (.ref nx 0 n n,some (.box t e cs),[])) else none
theorem aD9 (cs:List D) (o:Nat) (v:V) (d:D) (r:List (Nat × Nat × V)) (hv:bZ v=true) (hd:RF v=some d) (ho:o<cs.length):iG cs ((o,1,v)::r)=iG (cs.set o d) r:=by
 simp only[iG,fZ v hv,Option.bind_some,GE,hd,Option.map_some,List.length_singleton]
 rw[if_pos (by simp only[Bool.and_eq_true,Nat.ble_eq];exact ⟨rfl,by omega⟩),Z9 _ _ _ ho]
 rfl
theorem bP9 (nx:Nat) (t:TypeId) (e:Nat) (z:List Value):N7 nx t e 0 z []=some (.ref nx 0 0 0,some (.row t e false false []),[]):=(rfl)
theorem QG (nx:Nat) (t:TypeId) (z:Value) (hz:B8 z=true) (x:Value):N7 nx t 1 1 [z] [(0,1,.sc x)]=some (.ref nx 0 1 1,some (.row t 1 false false [.sc x]),[]):=by
 unfold N7
 rw[if_pos (by simp[rep,hz,v6])]
 rfl
theorem QH (nx:Nat) (t:TypeId) (z:Value) (hz:B8 z=true) (s n:Nat) (l:List D) (h:JJ (.sl s n l)=true):N7 nx t 1 1 [z] [(0,1,.sl s n l)]=some (.ref nx 0 1 1,some (.row t 1 false false [.sl s n l]),[]):=by
 have h1:((rep [z] 1).all B8 && Nat.blt 1 v6)=true:=by simp[rep,hz,v6]
 have h2:iG (BD (rep [z] 1)) [(0,1,V.sl s n l)]=some [.sl s n l]:=by
  rw[aD9 _ _ _ (.sl s n l) _ rfl (by simp only[RF,h,if_true]) (by simp[BD,rep])]
  simp[BD,rep,iG]
 simp only[N7,h1,if_true,h2]
theorem FF (nx:Nat) (t:TypeId) (z:Value) (hz:B8 z=true) (o k n c:Nat):N7 nx t 1 1 [z] [(0,1,.ref o k n c)]=some (.ref nx 0 1 1,some (.box t 1 [.ref o k n c]),[]):=by
 unfold N7
 rw[if_pos (by simp[rep,hz,v6])]
 rfl
theorem QF (nx:Nat) (t:TypeId) (z:Value) (hz:B8 z=true) (s o n:Nat):N7 nx t 1 1 [z] [(0,1,.gr s o n)]=some (.ref nx 0 1 1,some (.box t 1 [.gr s o n]),[]):=by
 unfold N7
 rw[if_pos (by simp[rep,hz,v6])]
 rfl
def cM (old:Nat→Nat→Option Value) (H:E4) (g:Option Nat) (v:Option V):Option V:=v.bind (cL old H g)
def xY (k:Nat) (g:Option Nat):Option Obj→Option V
 |some (.box _ _ l)=>vF l k g
 |some (.row _ _ _ _ l)=>D0 l k g
 |some (.gro _ _ _ l)=>D0 l k g
 |none=>none
theorem AT (old:Nat→Nat→Option Value) (H:E4) (g:Option Nat) (o k:Nat):cM old H g (some (.ptr o k))=xY k g (f8 H o):=by
 simp only[cM,Option.bind_some,cL,xY]
 cases f8 H o with
 |none=>rfl
 |some ob=>cases ob<;>rfl
theorem GT (old:Nat→Nat→Option Value) (H:E4) (g:Option Nat) (l:List D) (k:Nat):cM old H g (some (.dp l k))=D0 l k g:=(rfl)
theorem xZ (k:Nat) (g:Option Nat) (t e:Nat) (l:List V):xY k g (some (.box t e l))=vF l k g:=(rfl)
theorem yB (k:Nat) (g:Option Nat) (t e:Nat) (a b:Bool) (l:List D):xY k g (some (.row t e a b l))=D0 l k g:=(rfl)
theorem yA (k:Nat) (g:Option Nat) (t e:Nat) (a:Bool) (l:List D):xY k g (some (.gro t e a l))=D0 l k g:=(rfl)
theorem vG (l:List V) (k:Nat):vF l k none=A5 l k:=(rfl)
theorem vH (l:List V) (k n:Nat):vF l k (some n)=(B4 (l.drop k) n).map .agg:=(rfl)
theorem CW {α:Type} [Inhabited α] (f:α→D) (l:List α) (k:Nat) (hk:k<l.length):D0 (l.map f) k none=some (dv (f l[k]!)):=by
 simp only[D0,x6,List.getElem?_map,List.getElem?_eq_getElem hk,Option.map_some]
 rw[getElem!_pos l k hk]
theorem bO4 (x:Value):dv (.sc x)= .sc x:=(rfl)
theorem bO5 (s n:Nat) (l:List D):dv (.sl s n l)= .sl s n l:=(rfl)
theorem qT {α:Type} (f:α→List D) (e:Nat):∀ (l:List α) (k:Nat),(∀ x ∈ l,(f x).length=e)→k≤l.length→(l.flatMap f).drop (k*e)=(l.drop k).flatMap f
 |l,0,_,_=>by simp
 | [],k+1,_,h=>by simp at h
 |x::l,k+1,hf,h=>by
  have hx:=hf x List.mem_cons_self
  rw[List.flatMap_cons,Nat.succ_mul,List.drop_succ_cons,← qT f e l k (fun y hy=>hf y (List.mem_cons_of_mem _ hy)) (by simpa using h)]
  rw[Nat.add_comm,List.drop_append,List.drop_eq_nil_of_le (by omega),List.nil_append,show e+k*e - (f x).length=k*e by omega]
theorem wA {α:Type} [Inhabited α] (f:α→List D) (e:Nat) (l:List α) (hf:∀ x,(f x).length=e) (he:e ≠ 0) (k:Nat) (hk:k<l.length):D0 (l.flatMap f) (k*e) (some e)=some (.agg (dvL (f l[k]!))):=by
 have h1:(l.flatMap f).drop (k*e)=f l[k]! ++(l.drop (k+1)).flatMap f:=by
  rw[qT f e l k (fun x _=>hf x) (Nat.le_of_lt hk),List.drop_eq_getElem_cons hk,List.flatMap_cons,getElem!_pos l k hk]
 simp only[D0]
 rw[if_neg (by rw[i6];exact he),h1,U6 _ _ (by rw[List.length_append,hf];omega),List.take_left' (hf _)]
 rfl
theorem iI {α:Type} [Inhabited α] (f:α→List D) (e:Nat) (l:List α) (hf:∀ x,(f x).length=e) (k j:Nat) (hk:k<l.length) (hj:j<e):D0 (l.flatMap f) (k*e+j) none=(A5 (f l[k]!) j).map dv:=by
 have h1:(l.flatMap f).drop (k*e)=f l[k]! ++(l.drop (k+1)).flatMap f:=by
  rw[qT f e l k (fun x _=>hf x) (Nat.le_of_lt hk),List.drop_eq_getElem_cons hk,List.flatMap_cons,getElem!_pos l k hk]
 simp only[D0,x6]
 congr 1
 have:(l.flatMap f)[k*e+j]? =((l.flatMap f).drop (k*e))[j]? :=by rw[List.getElem?_drop]
 rw[this,h1,List.getElem?_append_left (by rw[hf];exact hj)]
def pD:V→Option V
 | .ptr o k=>some (.ptr o k)
 | .dp l o=>some (.dp l o)
 | .fn f a b=>some (.fn f a b)
 | .ifc t v=>some (.ifc t v)
 | .sc (.iface t v)=>some (.sc (.iface t v))
 | .sc (.func (.func f) a b)=>some (.sc (.func (.func f) a b))
 | .sc (.pointer (some a))=>some (.sc (.pointer (some a)))
 |_=>none
theorem tM (o k:Nat):pD (.ptr o k)=some (.ptr o k):=(rfl)
theorem xV (l:List D) (o:Nat):pD (.dp l o)=some (.dp l o):=(rfl)
theorem xW (f:FuncId) (a b:List V):pD (.fn f a b)=some (.fn f a b):=(rfl)
def bR5 (op:BinOp):V→V→Option V
 | .sc a,.sc b=>scO (K8 op a b)
 |_,_=>none
theorem WS (op:BinOp) (a b:Value):bR5 op (.sc a) (.sc b)=scO (K8 op a b):=(rfl)
def TZ (neg:Bool):V→V→Option V
 | .sc (.bool a),.sc (.bool b)=>some (.sc (.bool (if neg then !(a==b) else a==b)))
 |_,_=>none
def qX (k:Nat) (neg:Bool) (a b:V):Option V:=(I5 k a).bind fun p=>(I5 k b).bind fun q=>if p||q then some (.sc (.bool (if neg then !(p && q) else p && q))) else none
theorem wF (neg:Bool) (a:V) (p:Bool) (h:I5 1 a=some p):qX 1 neg a (.sc (.slice none 0 0))=some (.sc (.bool (if neg then !p else p))):=by
 have:I5 1 (.sc (.slice none 0 0))=some true:=(rfl)
 simp only[qX,h,this,Option.bind_some,Bool.or_true,if_true,Bool.and_true]
def unV (op:UnOp):V→Option V
 | .sc a=>scO (unA op a)
 |_=>none
theorem bA5 (op:UnOp) (a:Value):unV op (.sc a)=scO (unA op a):=(rfl)
def TU (k:IntKind):V→Option V
 | .sc (.int _ n)=>some (.sc (.int k (k.wrap n)))
 |_=>none
theorem CM (k j:IntKind) (n:Int):TU k (.sc (.int j n))=some (.sc (.int k (k.wrap n))):=(rfl)
def aO1:V→Option V
 | .sc (.string s)=>some (.sc (.string s))
 |_=>none
def aM2 (H:E4) (v:V):Option V:=if okV v then (V9 v).bind fun n=>(J8 H 1 n v).bind fun l=>if !l.2.isEmpty then none else (A0 l.1).bind fun bs=>some (.sc (.string ⟨bs.toArray⟩)) else none
def xT (nx:Nat) (t:TypeId) (e b:Nat) (z:List Value):V→V→VO
 | .sc (.int _ l),.sc (.int _ c)=>if 0≤l∧l≤c∧c*b≤r4∧c≤r4∧(rep z c.toNat).all B8=true then some (.ref nx 0 l.toNat c.toNat,some (.row t e false false (BD (rep z c.toNat))),[]) else none
 |_,_=>none
theorem bJ6 (z:Value) (n:Nat):BD (rep [z] n)=List.replicate n (.sc z):=by
 rw[JP];simp[BD]
theorem pA (nx:Nat) (t:TypeId) (b:Nat) (z:Value) (hz:B8 z=true) (k j:IntKind) (l c:Int) (h0:0≤l) (h1:l≤c) (h2:c*b≤1099511627776) (h3:c≤1099511627776):
  xT nx t 1 b [z] (.sc (.int k l)) (.sc (.int j c))=some (.ref nx 0 l.toNat c.toNat,some (.row t 1 false false (List.replicate c.toNat (.sc z))),[]):=by
 simp only[xT]
 rw[if_pos ⟨h0,h1,h2,h3,by rw[JP];simp[hz]⟩,bJ6]
def gX (lo hi:Option Value):V→Option V
 | .sc (.string t)=>(r6 hi t.size t.size).bind fun h=>(r6 lo 0 h).bind fun l=>some (.sc (.string (t.extract l h)))
 |_=>none
def bQ0 (n e:Nat) (lo hi:Option Value):V→Option V
 | .ptr o k=>if Nat.blt n v6 then aE e lo hi none (.ref o k n n) else none
 |_=>none
def XI (o:Nat):V→Option V
 | .ptr i k=>some (.ptr i (k+o))
 | .dp l k=>some (.dp l (k+o))
 | .sc (.pointer (some a))=>some (.sc (.pointer (some (y4 a o))))
 |_=>none
theorem DF (o i k:Nat):XI o (.ptr i k)=some (.ptr i (k+o)):=(rfl)
theorem MU (o:Nat) (l:List D) (k:Nat):XI o (.dp l k)=some (.dp l (k+o)):=(rfl)
def XJ (o:Nat) (n:Option Nat):V→Option V
 | .agg cs=>match n with
   |none=>A5 cs o
   |some n=>(B4 (cs.drop o) n).map .agg
 |_=>none
theorem wJ (o:Nat) (cs:List V):XJ o none (.agg cs)=A5 cs o:=(rfl)
theorem wK (o n:Nat) (cs:List V):XJ o (some n) (.agg cs)=(B4 (cs.drop o) n).map .agg:=(rfl)
def iU (e:Nat):V→V→Option V
 | .ref o k n _,.sc i=>(x5 i n).map fun i=> .ptr o (k+i*e)
 | .gr _ o n,.sc i=>(x5 i n).map fun i=> .ptr o (i*e)
 | .sl _ n l,.sc i=>(x5 i n).map fun i=> .dp l (i*e)
 | .slk _ n _ l,.sc i=>(x5 i n).map fun i=> .dp l (i*e)
 |_,_=>none
theorem DP (e o k n c:Nat) (kd:IntKind) (i:Int) (h0:0≤i) (h1:i<n):iU e (.ref o k n c) (.sc (.int kd i))=some (.ptr o (k+i.toNat*e)):=by simp only[iU,dR kd i n h0 h1,Option.map_some]
theorem NY (e s o n:Nat) (kd:IntKind) (i:Int) (h0:0≤i) (h1:i<n):iU e (.gr s o n) (.sc (.int kd i))=some (.ptr o (i.toNat*e)):=by simp only[iU,dR kd i n h0 h1,Option.map_some]
theorem NZ (e s n:Nat) (l:List D) (kd:IntKind) (i:Int) (h0:0≤i) (h1:i<n):iU e (.sl s n l) (.sc (.int kd i))=some (.dp l (i.toNat*e)):=by simp only[iU,dR kd i n h0 h1,Option.map_some]
def DN (n e:Nat):V→V→Option V
 | .ptr o k,.sc i=>(x5 i n).map fun i=> .ptr o (k+i*e)
 | .dp l k,.sc i=>(x5 i n).map fun i=> .dp l (k+i*e)
 | .sc (.pointer (some a)),.sc i=>(x5 i n).map fun i=> .sc (.pointer (some (y4 a (i*e))))
 |_,_=>none
theorem DO (n e o k:Nat) (kd:IntKind) (i:Int) (h0:0≤i) (h1:i<n):DN n e (.ptr o k) (.sc (.int kd i))=some (.ptr o (k+i.toNat*e)):=by simp only[DN,dR kd i n h0 h1,Option.map_some]
def fK:V→V→Option V
 | .sc (.string t),.sc i=>(x5 i t.size).bind fun i=>(A5 t.data.toList i).bind fun b=>some (.sc (.int .u8 b.toNat))
 |_,_=>none
def wY (n e:Nat) (g:Option Nat):V→V→Option V
 | .agg cs,.sc i=>(x5 i n).bind fun i=>match g with
   |none=>A5 cs (i*e)
   |some m=>(B4 (cs.drop (i*e)) m).map .agg
 |_,_=>none
def bS8 (i:Nat):V→Option V
 | .tup vs=>A5 vs i
 |_=>none
theorem MS (i:Nat) (vs:List V):bS8 i (.tup vs)=A5 vs i:=(rfl)
def bP3 (t:TypeId):V→Option V
 | .sc v=>some (.sc (.iface t v))
 |v=>some (.ifc t v)
theorem OP (t:TypeId) (v:Value):bP3 t (.sc v)=some (.sc (.iface t v)):=(rfl)
def oW (t:Bool) (x:V):Option V:=if t then (match x with| .sc (.string b)=>some (.sc (.int .i64 b.size))|_=>none) else (V9 x).map fun n=> .sc (.int .i64 n)
theorem OK (s n:Nat) (l:List D):oW false (.sl s n l)=some (.sc (.int .i64 n)):=(rfl)
theorem EA (o k n c:Nat):oW false (.ref o k n c)=some (.sc (.int .i64 n)):=(rfl)
theorem OJ (s o n:Nat):oW false (.gr s o n)=some (.sc (.int .i64 n)):=(rfl)
theorem EB (s n c:Nat) (l:List D):oW false (.slk s n c l)=some (.sc (.int .i64 n)):=(rfl)
theorem DZ (n c:Nat):oW false (.sc (.slice none n c))=some (.sc (.int .i64 0)):=(rfl)
theorem EC (b:ByteArray):oW true (.sc (.string b))=some (.sc (.int .i64 b.size)):=(rfl)
def mmV (g:Bool):V→V→Option V
 | .sc (.int k a),.sc (.int _ b)=>some (.sc (.int k (if g then (if b>a then b else a) else if b<a then b else a)))
 |_,_=>none
def aP5 (neg lit:Bool) (ts:List TypeId):V→V→Option V
 | .sc a,.sc b=>(wD lit ts a b).map fun r=> .sc (.bool (if neg then !r else r))
 | .ifc _ _,.sc .nilIface=>some (.sc (.bool neg))
 |_,_=>none
theorem MN (neg lit:Bool) (ts:List TypeId) (a b:Value):aP5 neg lit ts (.sc a) (.sc b)=(wD lit ts a b).map fun r=> .sc (.bool (if neg then !r else r)):=(rfl)
section
variable (old:Nat→Nat→Option Value) (fr:D7) (H:E4) (nx:Nat)
theorem aW9 (x:Operand):f6 old fr H nx (.mov x)=vp (o9 fr x):=(rfl)
theorem ZQ (c x y:Operand):f6 old fr H nx (.pick c x y)=vp (ZC (o9 fr c) (o9 fr x) (o9 fr y)):=by
 simp only[f6]
 cases o9 fr c with
 |none=>rfl
 |some v=>
  simp only[Option.bind_some]
  cases v with
  |sc u=>cases u with
   |bool t=>cases t<;>rfl
   |_=>rfl
  |_=>rfl
theorem PI (t:TypeId) (z:List (Nat × Value)) (h:(U2 z).all B8=true):f6 old fr H nx (.alloc t z)=some (.ptr nx 0,some (.box t 1 (scL (U2 z))),[]):=by simp only[f6,h,if_true]
theorem aW4 (t:TypeId) (x:Operand):f6 old fr H nx (.box t x)=kR (bF2 nx t) (o9 fr x):=(rfl)
theorem PK (z:List Value) (ps:List (Nat × Nat × Operand)):f6 old fr H nx (.build z ps)=kR (HP z) (K0 fr ps):=by
 simp only[f6,kR]
 cases K0 fr ps with
 |none=>split<;>rfl
 |some v=>simp only[Option.bind_some,HP]
theorem PQ (t:TypeId) (e n:Nat) (z:List Value) (ps:List (Nat × Nat × Operand)):f6 old fr H nx (.mkRow t e n z ps)=kR (N7 nx t e n z) (K0 fr ps):=by
 simp only[f6,kR]
 cases K0 fr ps with
 |none=>split<;>rfl
 |some v=>simp only[Option.bind_some,N7];rfl
theorem ZN (g:Option Nat) (x:Operand):f6 old fr H nx (.load g x)=vp (cM old H g (o9 fr x)):=by
 simp only[f6,cM]
 cases o9 fr x<;>rfl
theorem ES (x:Operand):f6 old fr H nx (.nilChk x)=vp (kR pD (o9 fr x)):=by
 simp only[f6,kR]
 cases o9 fr x with
 |none=>rfl
 |some v=>
  simp only[Option.bind_some]
  unfold pD
  split<;>first|rfl|(split<;>first|rfl|(exfalso;simp_all;done))
theorem aW3 (op:BinOp) (x y:Operand):f6 old fr H nx (.bin op x y)=vp (kS (bR5 op) (o9 fr x) (o9 fr y)):=by
 simp only[f6,kS]
 cases o9 fr x with
 |none=>rfl
 |some a=>cases o9 fr y with
  |none=>rfl
  |some b=>
   simp only[Option.bind_some]
   unfold bR5
   split<;>first|rfl|(split<;>first|rfl|(exfalso;simp_all;done))
theorem aW6 (g:Bool) (x y:Operand):f6 old fr H nx (.eqB g x y)=vp (kS (TZ g) (o9 fr x) (o9 fr y)):=by
 simp only[f6,kS]
 cases o9 fr x with
 |none=>rfl
 |some a=>cases o9 fr y with
  |none=>rfl
  |some b=>
   simp only[Option.bind_some]
   unfold TZ
   split<;>first|rfl|(split<;>first|rfl|(exfalso;simp_all;done))
theorem PO (k:Nat) (g:Bool) (x y:Operand):f6 old fr H nx (.eqNil k g x y)=vp (kS (qX k g) (o9 fr x) (o9 fr y)):=by
 simp only[f6,kS]
 cases o9 fr x with
 |none=>rfl
 |some a=>cases o9 fr y with
  |none=>rfl
  |some b=>
   simp only[Option.bind_some,qX]
   cases I5 k a with
   |none=>rfl
   |some p=>cases I5 k b with
    |none=>rfl
    |some q=>simp only[Option.bind_some];split<;>rfl
theorem bP8 (op:UnOp) (x:Operand):f6 old fr H nx (.un op x)=vp (kR (unV op) (o9 fr x)):=by
 simp only[f6,kR]
 cases o9 fr x with
 |none=>rfl
 |some v=>simp only[Option.bind_some];unfold unV;split<;>first|rfl|(split<;>first|rfl|(exfalso;simp_all;done))
theorem PL (k:IntKind) (x:Operand):f6 old fr H nx (.convI k x)=vp (kR (TU k) (o9 fr x)):=by
 simp only[f6,kR]
 cases o9 fr x with
 |none=>rfl
 |some v=>simp only[Option.bind_some];unfold TU;split<;>first|rfl|(split<;>first|rfl|(exfalso;simp_all;done))
theorem PM (x:Operand):f6 old fr H nx (.convS x)=vp (kR aO1 (o9 fr x)):=by
 simp only[f6,kR]
 cases o9 fr x with
 |none=>rfl
 |some v=>simp only[Option.bind_some];unfold aO1;split<;>first|rfl|(split<;>first|rfl|(exfalso;simp_all;done))
theorem aW2 (x:Operand):f6 old fr H nx (.b2s x)=vp (kR (aM2 H) (o9 fr x)):=by
 simp only[f6,kR]
 cases o9 fr x with
 |none=>rfl
 |some v=>
  simp only[Option.bind_some,aM2]
  split
  ·cases V9 v with
   |none=>rfl
   |some n=>
    simp only[Option.bind_some]
    cases J8 H 1 n v with
    |none=>rfl
    |some l=>
     simp only[Option.bind_some]
     split
     ·rfl
     ·cases A0 l.1<;>rfl
  ·rfl
theorem yO (t:TypeId) (e b:Nat) (z:List Value) (x y:Operand):f6 old fr H nx (.mkSlice t e b z x y)=kS (xT nx t e b z) (o9 fr x) (o9 fr y):=by
 simp only[f6,kS]
 cases o9 fr x with
 |none=>rfl
 |some a=>cases o9 fr y with
  |none=>rfl
  |some b=>
   simp only[Option.bind_some]
   cases a with
   |sc u=>cases u<;>first|rfl|(cases b with|sc v=>cases v<;>rfl|_=>rfl)
   |_=>rfl
def zK (f:Option Value→Option Value→V→Option V) (lo hi:Option (Option Value)) (x:Option V):Option V:=x.bind fun x=>lo.bind fun lo=>hi.bind fun hi=>f lo hi x
theorem zL (f:Option Value→Option Value→V→Option V) (lo hi:Option Value) (x:V):zK f (some lo) (some hi) (some x)=f lo hi x:=(rfl)
theorem ZS (x:Operand) (lo hi:Option Operand):f6 old fr H nx (.slcS x lo hi)=vp (zK (fun lo hi=>gX lo hi) (V5 fr lo) (V5 fr hi) (o9 fr x)):=by
 simp only[f6,zK]
 cases o9 fr x with
 |none=>rfl
 |some a=>cases V5 fr lo with
  |none=>rfl
  |some l=>cases V5 fr hi with
   |none=>rfl
   |some h=>
    simp only[Option.bind_some]
    cases a with
    |sc u=>cases u with
     |string t=>
      simp only[gX]
      cases r6 h t.size t.size with
      |none=>rfl
      |some i=>simp only[Option.bind_some];cases r6 l 0 i<;>rfl
     |_=>rfl
    |_=>rfl
theorem aX0 (e:Nat) (x:Operand) (lo hi mx:Option Operand):f6 old fr H nx (.slc e x lo hi mx)=vp ((V5 fr mx).bind fun mx=>zK (fun lo hi=>aE e lo hi mx) (V5 fr lo) (V5 fr hi) (o9 fr x)):=by
 simp only[f6,zK]
 cases o9 fr x with
 |none=>cases V5 fr mx<;>rfl
 |some a=>cases V5 fr lo with
  |none=>cases V5 fr mx<;>rfl
  |some l=>cases V5 fr hi with
   |none=>cases V5 fr mx<;>rfl
   |some h=>cases V5 fr mx<;>rfl
theorem ZR (n e:Nat) (x:Operand) (lo hi:Option Operand):f6 old fr H nx (.slcA n e x lo hi)=vp (zK (fun lo hi=>bQ0 n e lo hi) (V5 fr lo) (V5 fr hi) (o9 fr x)):=by
 simp only[f6,zK]
 cases o9 fr x with
 |none=>rfl
 |some a=>cases V5 fr lo with
  |none=>rfl
  |some l=>cases V5 fr hi with
   |none=>rfl
   |some h=>
    simp only[Option.bind_some]
    cases a with
    |ptr o k=>simp only[bQ0];split<;>rfl
    |_=>rfl
theorem ZI (o:Nat) (x:Operand):f6 old fr H nx (.fldA o x)=vp (kR (XI o) (o9 fr x)):=by
 simp only[f6,kR]
 cases o9 fr x with
 |none=>rfl
 |some v=>simp only[Option.bind_some];unfold XI;split<;>first|rfl|(split<;>first|rfl|(exfalso;simp_all;done))
theorem ZJ (o:Nat) (n:Option Nat) (x:Operand):f6 old fr H nx (.fldV o n x)=vp (kR (XJ o n) (o9 fr x)):=by
 simp only[f6,kR]
 cases o9 fr x with
 |none=>rfl
 |some v=>simp only[Option.bind_some];unfold XJ;split<;>first|(split<;>first|rfl|(exfalso;simp_all;done))|rfl
theorem ZL (e:Nat) (x i:Operand):f6 old fr H nx (.idxS e x i)=vp (kS (iU e) (o9 fr x) (o9 fr i)):=by
 simp only[f6,kS]
 cases o9 fr x with
 |none=>rfl
 |some a=>cases o9 fr i with
  |none=>rfl
  |some b=>
   simp only[Option.bind_some]
   cases b with
   |sc b=>
    cases a<;>first|rfl|(rename_i n _;simp only[iU];cases x5 b n<;>rfl)|(rename_i n _ _;simp only[iU];cases x5 b n<;>rfl)|(rename_i n;simp only[iU];cases x5 b n<;>rfl)
   |_=>cases a<;>rfl
theorem ZK (n e:Nat) (x i:Operand):f6 old fr H nx (.idxA n e x i)=vp (kS (DN n e) (o9 fr x) (o9 fr i)):=by
 simp only[f6,kS]
 cases o9 fr x with
 |none=>rfl
 |some a=>cases o9 fr i with
  |none=>rfl
  |some b=>
   simp only[Option.bind_some]
   cases b with
   |sc b=>
    cases a with
    |ptr o k=>simp only[DN];cases x5 b n<;>rfl
    |dp l k=>simp only[DN];cases x5 b n<;>rfl
    |sc u=>cases u with
     |pointer p=>cases p with
      |none=>rfl
      |some a=>simp only[DN];cases x5 b n<;>rfl
     |_=>rfl
    |_=>rfl
   |_=>cases a with
    |sc u=>cases u with
     |pointer p=>cases p<;>rfl
     |_=>rfl
    |_=>rfl
theorem ER (x i:Operand):f6 old fr H nx (.idxStr x i)=vp (kS fK (o9 fr x) (o9 fr i)):=by
 simp only[f6,kS]
 cases o9 fr x with
 |none=>rfl
 |some a=>cases o9 fr i with
  |none=>rfl
  |some b=>
   simp only[Option.bind_some]
   cases a with
   |sc u=>cases u with
    |string t=>cases b with
     |sc i=>
      simp only[fK]
      cases x5 i t.size with
      |none=>rfl
      |some j=>simp only[Option.bind_some];cases A5 t.data.toList j<;>rfl
     |_=>rfl
    |_=>rfl
   |_=>rfl
theorem ZM (n e:Nat) (g:Option Nat) (x i:Operand):f6 old fr H nx (.idxV n e g x i)=vp (kS (wY n e g) (o9 fr x) (o9 fr i)):=by
 simp only[f6,kS]
 cases o9 fr x with
 |none=>rfl
 |some a=>cases o9 fr i with
  |none=>rfl
  |some b=>
   simp only[Option.bind_some]
   cases a with
   |agg cs=>cases b with
    |sc i=>
     simp only[wY]
     cases x5 i n with
     |none=>rfl
     |some j=>simp only[Option.bind_some];cases g<;>rfl
    |_=>rfl
   |_=>rfl
theorem aW7 (x:Operand) (i:Nat):f6 old fr H nx (.ext x i)=vp (kR (bS8 i) (o9 fr x)):=by
 simp only[f6,kR]
 cases o9 fr x with
 |none=>rfl
 |some v=>simp only[Option.bind_some];unfold bS8;split<;>first|rfl|(split<;>first|rfl|(exfalso;simp_all;done))
def YU (f:FuncId) (a b:List V):Option V:=some (.fn f a b)
theorem ZO (f:FuncId) (a b:List Operand):f6 old fr H nx (.mkFn f a b)=vp (kS (YU f) (W1 fr a) (W1 fr b)):=by
 simp only[f6,kS,YU]
 cases W1 fr a with
 |none=>rfl
 |some x=>cases W1 fr b<;>rfl
theorem ZP (t:TypeId) (x:Operand):f6 old fr H nx (.mkIf t x)=vp (kR (bP3 t) (o9 fr x)):=by
 simp only[f6,kR]
 cases o9 fr x with
 |none=>rfl
 |some v=>simp only[Option.bind_some];cases v<;>rfl
theorem aW8 (t:Bool) (x:Operand):f6 old fr H nx (.len t x)=vp (kR (oW t) (o9 fr x)):=by
 simp only[f6,kR]
 cases o9 fr x with
 |none=>rfl
 |some v=>
  simp only[Option.bind_some]
  cases t with
  |true=>
   cases v with
   |sc u=>cases u<;>rfl
   |_=>rfl
  |false=>
   simp only[oW]
   cases V9 v<;>rfl
theorem bP7 (g:Bool) (x y:Operand):f6 old fr H nx (.mm g x y)=vp (kS (mmV g) (o9 fr x) (o9 fr y)):=by
 simp only[f6,kS]
 cases o9 fr x with
 |none=>rfl
 |some a=>cases o9 fr y with
  |none=>rfl
  |some b=>
   simp only[Option.bind_some]
   cases a with
   |sc u=>cases u<;>first|rfl|(cases b with|sc v=>cases v<;>rfl|_=>rfl)
   |_=>rfl
theorem aW1 (t:TypeId) (e b:Nat) (x y:Operand):f6 old fr H nx (.app t e b x y)=kS (mB H nx t e b) (o9 fr x) (o9 fr y):=(rfl)
def rY:V→Option V
 | .sc (.slice none _ _)=>some (.sc (.pointer none))
 | .ref o k _ c=>if Nat.beq c 0||Nat.beq c v6 then none else some (.ptr o k)
 | .gr _ o n=>if Nat.beq n 0 then none else some (.ptr o 0)
 |_=>none
theorem PS (x:Operand):f6 old fr H nx (.sdata x)=vp (kR rY (o9 fr x)):=by
 simp only[f6,kR]
 cases o9 fr x with
 |none=>rfl
 |some a=>
  simp only[Option.bind_some]
  cases a with
  |sc x=>cases x with
   |slice a n c=>cases a<;>rfl
   |_=>rfl
  |ref o k n c=>
   simp only[rY]
   by_cases h:(Nat.beq c 0||Nat.beq c v6)=true
   ·rw[if_pos h,if_pos h];rfl
   ·rw[if_neg h,if_neg h];rfl
  |gr s o n=>
   simp only[rY]
   by_cases h:Nat.beq n 0=true
   ·rw[if_pos h,if_pos h];rfl
   ·rw[if_neg h,if_neg h];rfl
  |_=>rfl
theorem zH (n c:Nat):rY (.sc (.slice none n c))=some (.sc (.pointer none)):=(rfl)
theorem FN (s o n:Nat) (h:n ≠ 0):rY (.gr s o n)=some (.ptr o 0):=by
 simp only[rY]
 rw[if_neg (by rw[i6];exact h)]
def AF (ob:Option Obj) (o k:Nat):Option V:=match ob with|some (.box _ _ l)=>if Nat.blt k l.length then some (.ptr o k) else none|_=>none
def WC (H:E4):V→Option V
 | .sc (.pointer none)=>some (.sc (.pointer none))
 | .ptr o k=>AF (f8 H o) o k
 |_=>none
theorem PU (x:Operand):f6 old fr H nx (.toUns x)=vp (kR (WC H) (o9 fr x)):=by
 simp only[f6,kR]
 cases o9 fr x with
 |none=>rfl
 |some a=>
  simp only[Option.bind_some]
  cases a with
  |sc x=>cases x with
   |pointer a=>cases a<;>rfl
   |_=>rfl
  |ptr o k=>
   simp only[WC,AF]
   cases f8 H o with
   |none=>rfl
   |some ob=>cases ob with
    |box t e l=>
     by_cases h:Nat.blt k l.length=true
     ·simp only[if_pos h];rfl
     ·simp only[if_neg h];rfl
    |_=>rfl
  |_=>rfl
theorem AE (o k:Nat):WC H (.ptr o k)=AF (f8 H o) o k:=(rfl)
theorem AG (t e o k:Nat) (l:List V) (h:k<l.length):AF (some (.box t e l)) o k=some (.ptr o k):=by
 simp only[AF]
 rw[if_pos (by rw[Nat.blt_eq];exact h)]
def iN (t n:Nat) (ob:Option Obj) (o k:Nat):Option V:=match ob with|some (.box t' _ l)=>if Nat.beq t' t && Nat.beq k 0 && Nat.ble n l.length && Nat.blt 0 n then some (.ptr o k) else none|_=>none
def wN (H:E4) (t n:Nat):V→Option V
 | .sc (.pointer none)=>some (.sc (.pointer none))
 | .ptr o k=>iN t n (f8 H o) o k
 |_=>none
theorem yN (t n:Nat) (x:Operand):f6 old fr H nx (.fromUns t n x)=vp (kR (wN H t n) (o9 fr x)):=by
 simp only[f6,kR]
 cases o9 fr x with
 |none=>rfl
 |some a=>
  simp only[Option.bind_some]
  cases a with
  |sc x=>cases x with
   |pointer a=>cases a<;>rfl
   |_=>rfl
  |ptr o k=>
   simp only[wN,iN]
   cases f8 H o with
   |none=>rfl
   |some ob=>cases ob with
    |box t' e l=>
     by_cases h:(Nat.beq t' t && Nat.beq k 0 && Nat.ble n l.length && Nat.blt 0 n)=true
     ·simp only[if_pos h];rfl
     ·simp only[if_neg h];rfl
    |_=>rfl
  |_=>rfl
theorem oL (t n o k:Nat):wN H t n (.ptr o k)=iN t n (f8 H o) o k:=(rfl)
theorem oM (t e n o:Nat) (l:List V) (h:n≤l.length) (h0:0<n):iN t n (some (.box t e l)) o 0=some (.ptr o 0):=by
 simp only[iN]
 rw[if_pos (by rw[Bool.and_eq_true,Bool.and_eq_true,Bool.and_eq_true,i6,i6,Nat.ble_eq,Nat.blt_eq];exact ⟨⟨⟨rfl,rfl⟩,h⟩,h0⟩)]
def qY (neg:Bool) (H:E4):V→V→Option V
 | .sc a,.sc b=>(iK a b).map fun r=> .sc (.bool (if neg then !r else r))
 | .sc (.pointer none),.ptr _ _=>some (.sc (.bool neg))
 | .ptr _ _,.sc (.pointer none)=>some (.sc (.bool neg))
 | .ptr o k,.ptr o' k'=>if o=o'∧(f8 H o).isSome then (match f8 H o with|some (.gro _ _ _ _)=>none|_=>some (.sc (.bool (if neg then !(Nat.beq k k') else Nat.beq k k')))) else none
 |_,_=>none
theorem PP (g:Bool) (x y:Operand):f6 old fr H nx (.eqPtr g x y)=vp (kS (qY g H) (o9 fr x) (o9 fr y)):=by
 simp only[f6,kS]
 cases o9 fr x with
 |none=>rfl
 |some a=>cases o9 fr y with
  |none=>rfl
  |some b=>
   simp only[Option.bind_some]
   cases a with
   |sc a=>cases b with
    |sc b=>simp only[qY];cases iK a b<;>rfl
    |ptr o k=>cases a with
     |pointer a=>cases a<;>rfl
     |_=>rfl
    |_=>cases a with
     |pointer a=>cases a<;>rfl
     |_=>rfl
   |ptr o k=>cases b with
    |sc b=>cases b with
     |pointer a=>cases a<;>rfl
     |_=>rfl
    |ptr o' k'=>
     simp only[qY]
     by_cases h:o=o'∧(f8 H o).isSome=true
     ·rw[if_pos h,if_pos h]
      cases f8 H o with
      |none=>rfl
      |some ob=>cases ob<;>rfl
     ·rw[if_neg h,if_neg h];rfl
    |_=>rfl
   |_=>rfl
theorem MP (g:Bool) (o k t e:Nat) (l:List V) (h:f8 H o=some (.box t e l)):qY g H (.ptr o k) (.ptr o k)=some (.sc (.bool (!g))):=by
 simp only[qY,h,Option.isSome_some,and_self,if_true,(i6 (i:=k) (j:=k)).2 rfl]
 cases g<;>rfl
theorem sX (g:Bool) (o k:Nat):qY g H (.ptr o k) (.sc (.pointer none))=some (.sc (.bool g)):=(rfl)
theorem PN (g:Bool) (ps:List (Nat × Nat)) (x y:Operand):f6 old fr H nx (.eqAgg g ps x y)=vp (kS (qV g ps) (o9 fr x) (o9 fr y)):=by
 simp only[f6,kS]
 cases o9 fr x with
 |none=>rfl
 |some a=>cases o9 fr y with
  |none=>rfl
  |some b=>simp only[Option.bind_some];cases qV g ps a b<;>rfl
def bH4 (g r:Bool):Bool:=if g then !r else r
theorem aU2 (r:Bool):bH4 true r= !r:=(rfl)
theorem aU1 (r:Bool):bH4 false r=r:=(rfl)
theorem mR (g:Bool) (ps:List (Nat × Nat)) (xs ys:List V):qV g ps (.agg xs) (.agg ys)=(U1 ps xs ys).map fun r=> .sc (.bool (bH4 g r)):=(rfl)
theorem fE (xs ys:List V):U1 [] xs ys=some true:=(rfl)
theorem dC (o c:Nat) (r:List (Nat × Nat)) (xs ys:List V):U1 ((o,c)::r) xs ys=HK (Y4 c (A5 xs o) (A5 ys o)) (U1 r xs ys):=(rfl)
theorem qK (p q:Bool):HK (some p) (some q)=some (p && q):=by cases p<;>rfl
theorem iJ (k:IntKind) (a b:Int):Y4 0 (some (.sc (.int k a))) (some (.sc (.int k b)))=some (decide (a=b)):=by
 simp only[Y4,qW,if_true]
 rfl
theorem fD (a b:Bool):Y4 2 (some (.sc (.bool a))) (some (.sc (.bool b)))=some (a==b):=(rfl)
theorem sV (a b:ByteArray):Y4 1 (some (.sc (.string a))) (some (.sc (.string b)))=some (a.toList==b.toList):=(rfl)
theorem ZH (g l:Bool) (ts:List TypeId) (x y:Operand):f6 old fr H nx (.eqIf g l ts x y)=vp (kS (aP5 g l ts) (o9 fr x) (o9 fr y)):=by
 simp only[f6,kS]
 cases o9 fr x with
 |none=>rfl
 |some a=>cases o9 fr y with
  |none=>rfl
  |some b=>
   simp only[Option.bind_some]
   cases a with
   |sc a=>cases b with
    |sc b=>simp only[aP5];cases wD l ts a b<;>rfl
    |_=>rfl
   |ifc t a=>cases b with
    |sc b=>cases b<;>rfl
    |_=>rfl
   |_=>rfl
theorem PT (n:Nat) (a v:Operand):f6 old fr H nx (.store n a v)=none:=(rfl)
theorem ZG (e:Nat) (d s:Operand):f6 old fr H nx (.copy e d s)=none:=(rfl)
theorem ZT (t:TypeId) (p n:Operand):f6 old fr H nx (.ustr t p n)=none:=(rfl)
end
def aZ6 (st:l8) (n:Nat) (a v:V):Option (V × l8):=(KI st n a v).map fun st=>(.tup [],st)
theorem SU (fr:D7) (st:l8) (n:Nat) (a v:Operand):Q1 fr st (.store n a v)=kS (aZ6 st n) (o9 fr a) (o9 fr v):=by
 simp only[Q1,kS]
 rfl
theorem bD7 (fr:D7) (st:l8) (t:TypeId) (e b:Nat) (x y:Operand):Q1 fr st (.app t e b x y)=kS (uB st t e b) (o9 fr x) (o9 fr y):=(rfl)
theorem aC0 (fr:D7) (st:l8) (e:Nat) (d x:Operand):Q1 fr st (.copy e d x)=kS (aA6 st e) (o9 fr d) (o9 fr x):=(rfl)
theorem aC1 (fr:D7) (st:l8) (t:TypeId) (p n:Operand):Q1 fr st (.ustr t p n)=kS (AZ st t) (o9 fr p) (o9 fr n):=(rfl)
theorem OI (o k n c:Nat):Q7 (.ref o k n c)=some n:=(rfl)
theorem bH2 (s n:Nat) (l:List D):Q7 (.sl s n l)=some n:=(rfl)
theorem aT5 (s n c:Nat) (l:List D):Q7 (.slk s n c l)=some n:=(rfl)
theorem bH1 (s o n:Nat):Q7 (.gr s o n)=some n:=(rfl)
theorem aT6 (b:ByteArray):Q7 (.sc (.string b))=some b.size:=(rfl)
theorem bW8 (H:E4) (e s n:Nat) (l:List D) (h:l.length=n*e):J8 H e n (.sl s n l)=some (l,[]):=by
 simp only[J8]
 rw[if_pos ⟨h,Nat.le_refl _⟩,List.take_of_length_le (by omega)]
theorem bK1 (H:E4) (e s n c:Nat) (l:List D) (h:l.length=n*e):J8 H e n (.slk s n c l)=some (l,[]):=by
 simp only[J8]
 rw[if_pos ⟨h,Nat.le_refl _⟩,List.take_of_length_le (by omega)]
theorem bK2 (H:E4) (s:ByteArray):J8 H 1 s.size (.sc (.string s))=some (s.data.toList.map fun b=> .sc (.int .u8 b.toNat),[]):=by
 simp only[J8]
 rw[if_pos (by simp)]
 rw[List.take_of_length_le (by simp)]
section
variable {α:Type} [Inhabited α] [DecidableEq α]
theorem BN {P:Nat→Prop} {k:Nat} (h:∀ j,j<k→P j) (hk:P k):∀ j,j<k+1→P j:=fun j hj=>by
 rcases Nat.lt_succ_iff_lt_or_eq.1 hj with h'|rfl
 ·exact h j h'
 ·exact hk
end
theorem xO {α:Type} (l:List α):B4 l 0=some []:=by cases l<;>rfl
theorem xN {α:Type} (x:α) (l:List α) (n:Nat):B4 (x::l) (n+1)=(B4 l n).map (x::·):=rfl
theorem all_cons (x:Value) (l:List Value) (hx:A1 x=true) (hl:l.all A1=true):(x::l).all A1=true:=by simp[hx,hl]
theorem BX.one {lo:Nat} {s:St} {t:TypeId} {e:Nat} {v:Value} {n:Nat} {cs:List Value} (o:BX lo s t e v n cs):A1 v=true:=by
 rcases o.is with ⟨rfl,_⟩|⟨i,_,_,_,⟨rfl,_⟩|⟨rfl,_⟩⟩<;>rfl
def cL1:K3→Bool
 | .load _ _=>true
 | .store _ _ _=>true
 | .app _ _ _ _ _=>true
 | .copy _ _ _=>true
 |_=>false
section
variable {E:E2} {K:List KF} {fr f fr0:Fr} {s:St} {p n:Nat} {conc:List Nat} {hint:Option (List Nat)} {d:Option Nat} {l:List sL} {rs:List H1} {h:j9} {tail:List i7} {ks:List Nat} {V:VS}
theorem aI6 (d':Option Nat) (g:Option (Nat × Bool)) (o:K3):V2 E fr0 p ⟨⟨d',g,o⟩,conc,hint⟩ rs f h n=V2 E fr0 p ⟨⟨none,none,o⟩,conc,hint⟩ rs f h n:=by
 cases o<;>rfl
end
theorem cE6 (v w v' w':VS) (a b:NW):H1.ok ⟨v,w,a⟩ ⟨v',w',b⟩=(w.dis v' && w'.dis v && a.out v'):=rfl
theorem aP0 (a b:List Nat):(VS.only a).dis (.only b)=MK a b:=rfl
theorem aU8 (a c:Nat) (b:List Nat):(NW.rng a c).out (.only b)=yF a c b:=rfl

section
variable {α:Type}
theorem KW (i:Nat):f8 ([]:List (Nat × α)) i=none:=(rfl)
theorem LB (i:Nat) (v:α):qL [] i v= [(i,v)]:=(rfl)
theorem vE (i j:Nat) (u v:α) (r:List (Nat × α)):qL ((j,u)::r) i v=if i=j then (i,v)::r else if i<j then (i,v)::(j,u)::r else (j,u)::qL r i v:=by
 simp only[qL]
 by_cases h:i=j
 ·rw[if_pos (i6.2 h),if_pos h]
 ·rw[if_neg (by rw[i6];exact h),if_neg h]
  by_cases h2:i<j
  ·rw[if_pos (by rw[Nat.blt_eq];exact h2),if_pos h2]
  ·rw[if_neg (by rw[Nat.blt_eq];exact h2),if_neg h2]
theorem vD (fr:List (Nat × α)) (i:Nat) (v:α):u9 fr (some i) v=qL fr i v:=(rfl)
theorem vC (fr:List (Nat × α)) (v:α):u9 fr none v=fr:=(rfl)
theorem LC (i:Nat) (v:α):A3 [] i v= []:=(rfl)
theorem J1 (i j:Nat) (u v:α) (r:List (Nat × α)):A3 ((j,u)::r) i v=if i=j then (j,v)::r else (j,u)::A3 r i v:=by
 simp only[A3]
 by_cases h:i=j
 ·rw[if_pos (i6.2 h),if_pos h]
 ·rw[if_neg (by rw[i6];exact h),if_neg h]
theorem KU (i:Nat):H9 i ([]:List (Nat × α))= []:=(rfl)
theorem bN (i j:Nat) (u:α) (r:List (Nat × α)):H9 i ((j,u)::r)=if i=j then H9 i r else (j,u)::H9 i r:=by
 simp only[H9]
 by_cases h:i=j
 ·rw[if_pos (i6.2 h),if_pos h]
 ·rw[if_neg (by rw[i6];exact h),if_neg h]
theorem BY (ks:List Nat):C9 ks ([]:List (Nat × α))= []:=(rfl)
theorem sM (ks:List Nat) (j:Nat) (v:α) (r:List (Nat × α)):C9 ks ((j,v)::r)=if l7 j ks=true then (j,v)::C9 ks r else C9 ks r:=(rfl)
end
theorem wO (fz:List Nat):C0 fz []= []:=(rfl)
theorem iO (fz:List Nat) (j:Nat) (o:Obj) (r:E4):C0 fz ((j,o)::r)=(j,if l7 j fz=true then o.froz else o)::C0 fz r:=(rfl)
theorem NA (t e:Nat) (g z:Bool) (l:List D):(Obj.row t e g z l).froz= .row t e g true l:=(rfl)
theorem MZ (t e:Nat) (z:Bool) (l:List D):(Obj.gro t e z l).froz= .gro t e true l:=(rfl)
theorem MY (t e:Nat) (l:List V):(Obj.box t e l).froz= .box t e l:=(rfl)
section
variable {fr:D7}
theorem aB2 (t:Nat):o9 fr (.tmp t)=f8 fr t:=(rfl)
theorem aB0 (k:IntKind) (n:Int):o9 fr (.const (.int k n))=some (.sc (.int k n)):=(rfl)
theorem RS (b:Bool):o9 fr (.const (.bool b))=some (.sc (.bool b)):=(rfl)
theorem aB1 (b:ByteArray):o9 fr (.const (.string b))=some (.sc (.string b)):=(rfl)
theorem RX:o9 fr (.const (.slice none 0 0))=some (.sc (.slice none 0 0)):=(rfl)
theorem RW:o9 fr (.const (.pointer none))=some (.sc (.pointer none)):=(rfl)
theorem RV:o9 fr (.const .nilIface)=some (.sc .nilIface):=(rfl)
theorem RU:o9 fr (.const .nilFunc)=some (.sc .nilFunc):=(rfl)
theorem AQ (g:Nat):o9 fr (.global g)=some (.sc (.pointer (some ⟨g,0,none⟩))):=(rfl)
theorem RT (f:FuncId):o9 fr (.func f)=some (.sc (.func (.func f) #[] #[])):=(rfl)
theorem RY:W1 fr []=some []:=(rfl)
def CL (a:Option V) (b:Option (List V)):Option (List V):=a.bind fun v=>b.bind fun vs=>some (v::vs)
theorem vS (a:V) (b:List V):CL (some a) (some b)=some (a::b):=(rfl)
theorem GN (x:Operand) (r:List Operand):W1 fr (x::r)=CL (o9 fr x) (W1 fr r):=(rfl)
def cD6 (a:Option V):Option (Option Value):=a.bind fun v=>match v with| .sc (.int k i)=>some (some (.int k i))|_=>none
theorem DQ (k:IntKind) (i:Int):cD6 (some (.sc (.int k i)))=some (some (.int k i)):=(rfl)
theorem GL:V5 fr none=some none:=(rfl)
theorem GM (x:Operand):V5 fr (some x)=cD6 (o9 fr x):=(rfl)
theorem qA:K0 fr []=some []:=(rfl)
def aO0 (o n:Nat) (a:Option V) (b:Option (List (Nat × Nat × V))):Option (List (Nat × Nat × V)):=a.bind fun v=>b.bind fun vs=>some ((o,n,v)::vs)
theorem sT (o n:Nat) (a:V) (b:List (Nat × Nat × V)):aO0 o n (some a) (some b)=some ((o,n,a)::b):=(rfl)
theorem mC (o n:Nat) (x:Operand) (r:List (Nat × Nat × Operand)):K0 fr ((o,n,x)::r)=aO0 o n (o9 fr x) (K0 fr r):=(rfl)
end
theorem SA (H:E4) (m:List Bool):O0 H [] m=H:=by cases m<;>rfl
theorem GS (H:E4) (p:Nat × Bool) (r:List (Nat × Bool)) (m:List Bool):O0 H (p::r) (true::m)=O0 H r m:=(rfl)
theorem AS (H:E4) (o:Nat) (r:List (Nat × Bool)) (m:List Bool):O0 H ((o,true)::r) (false::m)=H9 o (O0 H r m):=(rfl)
theorem GR (H:E4) (o:Nat) (r:List (Nat × Bool)) (m:List Bool):O0 H ((o,false)::r) (false::m)=O0 H r m:=(rfl)
theorem RZ (H:E4) (p:Nat × Bool) (r:List (Nat × Bool)):O0 H (p::r) []=O0 H r []:=(rfl)
section
variable {C:C5} {st:l8} {fr:D7} {res:List (Nat × Option (Option Nat))}
theorem AW:L0 C fr st []=some []:=(rfl)
theorem AX (t:Nat) (r:List (Nat × Option (Option Nat))):L0 C fr st ((t,none)::r)=CL (f8 fr t) (L0 C fr st r):=by
 simp only[L0,CL]
 cases f8 fr t with
 |none=>rfl
 |some v=>simp only[Option.bind_some];cases L0 C fr st r<;>rfl
theorem uC (t:Nat) (g:Option Nat) (r:List (Nat × Option (Option Nat))):L0 C fr st ((t,some g)::r)=CL (cM C.E.old st.own g (f8 fr t)) (L0 C fr st r):=by
 simp only[L0,CL,cM]
 cases f8 fr t with
 |none=>rfl
 |some p=>
  simp only[Option.bind_some]
  cases cL C.E.old st.own g p with
  |none=>rfl
  |some v=>simp only[Option.bind_some];cases L0 C fr st r<;>rfl
theorem SH (v:V):O1 [v]=v:=(rfl)
theorem SI (a b:V) (r:List V):O1 (a::b::r)= .tup (a::b::r):=(rfl)
mutual
theorem sG (ρ:List (Nat × Nat)):∀ (v:V),w7 v=true→aD ρ v=v
 | .sc x,_=>rfl
 | .agg l,h=>by simp only[w7] at h;simp only[aD,nP ρ l h]
 | .tup l,h=>by simp only[w7] at h;simp only[aD,nP ρ l h]
 | .sl _ _ _,h=>by simp[w7] at h
 | .slk _ _ _ _,h=>by simp[w7] at h
 | .dp _ _,h=>by simp[w7] at h
 | .ref _ _ _ _,h=>by simp[w7] at h
 | .gr _ _ _,h=>by simp[w7] at h
 | .ptr _ _,h=>by simp[w7] at h
 | .fn _ _ _,h=>by simp[w7] at h
 | .ifc t v,h=>by simp only[w7] at h;simp only[aD,sG ρ v h]
 | .dead,h=>by simp[w7] at h
 | .tok _,h=>by simp[w7] at h
theorem nP (ρ:List (Nat × Nat)):∀ (l:List V),oJ l=true→gY ρ l=l
 | [],_=>rfl
 |v::r,h=>by
  simp only[oJ,Bool.and_eq_true] at h
  simp only[gY,sG ρ v h.1,nP ρ r h.2]
end
theorem b8 {v:V} (h:w7 v=true) (h0:C.w0.nx=0) (hr:st.ro=0):M3 C [(0,v)] st [(0,v)] ⟨[],0,0⟩:=by
 have:=SM (C:=C) (st:=st) [] 0 (fr:= [(0,v)]) (by omega) rfl
 rw[hr] at this
 simpa only[yT,sG [] v h,BS] using this
end
section
variable {old:Nat→Nat→Option Value} {rounds:Nat} {fns:FuncId→Option p7} {prims:FuncId→List Value→St→Option (Value × List u6)} {n:Nat} {f:FuncId} {xs:List V} {v:V} {st1:l8} {af:p7}
mutual
theorem HY {H:E4}:∀ {v:V},w7 v=true→Cl H v
 | .sc x,_=>by simp only[Cl]
 | .agg l,h=>by simp only[w7] at h;simp only[Cl];exact vP h
 | .tup l,h=>by simp only[w7] at h;simp only[Cl];exact vP h
 | .sl _ _ _,h=>by simp[w7] at h
 | .slk _ _ _ _,h=>by simp[w7] at h
 | .dp _ _,h=>by simp[w7] at h
 | .ref _ _ _ _,h=>by simp[w7] at h
 | .gr _ _ _,h=>by simp[w7] at h
 | .ptr _ _,h=>by simp[w7] at h
 | .fn _ _ _,h=>by simp[w7] at h
 | .ifc t v,h=>by simp only[w7] at h;simp only[Cl];exact HY h
 | .dead,h=>by simp[w7] at h
 | .tok _,h=>by simp[w7] at h
theorem vP {H:E4}:∀ {l:List V},oJ l=true→HB H l
 | [],_=>by simp only[HB]
 |v::r,h=>by
  simp only[oJ,Bool.and_eq_true] at h
  simp only[HB]
  exact ⟨HY h.1,vP h.2⟩
end
theorem d7 (hf:fns f=some af) (hpu:af.pure=true) (hp:∀ xs s,prims f xs s=none) (hlen:xs.length≤af.n) (hold:eO (t8 old rounds fns prims 0)) (hfl:w7 v=true)
  (h:∀ C:C5,C.E=t8 old rounds fns prims n→C.w0.nx=0→gC C af.code [] (R7 0 xs) ⟨[],0,0⟩ (qI C af.res v ⟨[],0,0⟩)):m6 (t8 old rounds fns prims (n+1)) f xs v ⟨[],0,0⟩:=by
 refine SE hf hpu hp hlen hold ⟨?_,(fun o t e l h=>by cases h),(fun o ob h=>by cases h)⟩ rfl h
 exact HY hfl
theorem y9 (hf:fns f=some af) (hpu:af.pure=true) (hp:∀ xs s,prims f xs s=none) (hlen:xs.length≤af.n) (hold:eO (t8 old rounds fns prims 0)) (hR:bM st1.own v) (hro:st1.ro=0)
  (h:∀ C:C5,C.E=t8 old rounds fns prims n→C.w0.nx=0→gC C af.code [] (R7 0 xs) ⟨[],0,0⟩ (qI C af.res v st1)):m6 (t8 old rounds fns prims (n+1)) f xs v st1:=SE hf hpu hp hlen hold hR hro h
theorem bC3 {st0:l8} (hf:fns f=some af) (hpu:af.pure=true) (hp:∀ xs s,prims f xs s=none) (hlen:xs.length≤af.n) (hfl:w7 v=true)
  (h:∀ C:C5,C.E=t8 old rounds fns prims n→C.w0.nx=st0.next→∃ st1,gC C af.code [] (R7 0 xs) ⟨st0.own,st0.next,st0.next⟩ (qI C af.res v st1)):H0 (t8 old rounds fns prims (n+1)) f st0 xs v:=aK0 hf hpu hp hlen hfl h
end
theorem g9 (w:World) {r:Nat} {fns:FuncId→Option p7} {prims:FuncId→List Value→St→Option (Value × List u6)}:eO (t8 (I7 w) r fns prims 0):=by
 intro b o v e
 have e:I7 w b o=some v:=e
 unfold I7 at e
 split at e
 ·cases e;exact .inr ⟨_,_,_,rfl⟩
 ·split at e
  ·rename_i h;cases e;exact .inl (by simpa using h)
  ·cases e
 ·cases e
section
variable {C:C5} {K:List KF} {fr:D7} {st:l8} {P:A8}
theorem J4 {p:Prop} [Decidable p] {t e:AC} (h1:p→gC C t K fr st P) (h2:¬ p→gC C e K fr st P):gI C (some (.sc (.bool (decide p)))) t e K fr st P:=by
 by_cases h:p
 ·rw[bP h,IQ];exact h1 h
 ·rw[dK h,wT];exact h2 h
theorem J5 {b:Bool} {t e:AC} (h1:b=true→gC C t K fr st P) (h2:b=false→gC C e K fr st P):gI C (some (.sc (.bool b))) t e K fr st P:=by
 cases b
 ·exact h2 rfl
 ·exact h1 rfl
theorem A9 {p:Prop} [Decidable p] {want:Bool} {d:Option Nat} {o:K3} {l:List i7} {ks:List Nat} (h1:p→gG C (some (.sc (.bool true))) want d o l ks K fr st P) (h2:¬ p→gG C (some (.sc (.bool false))) want d o l ks K fr st P):gG C (some (.sc (.bool (decide p)))) want d o l ks K fr st P:=by
 by_cases h:p
 ·rw[bP h];exact h1 h
 ·rw[dK h];exact h2 h
theorem J3 {b:Bool} {want:Bool} {d:Option Nat} {o:K3} {l:List i7} {ks:List Nat} (h1:b=true→gG C (some (.sc (.bool true))) want d o l ks K fr st P) (h2:b=false→gG C (some (.sc (.bool false))) want d o l ks K fr st P):gG C (some (.sc (.bool b))) want d o l ks K fr st P:=by
 cases b
 ·exact h2 rfl
 ·exact h1 rfl
theorem E9 {p:Prop} [Decidable p] {want:Bool} {t:Nat} {d:Option Nat} {o:K3} {l:List i7} {hid:List (List Bool)} {vds:List (Nat × Bool)} {tail:List i7} {ks:List Nat} (h1:p→XZ C (some (.sc (.bool true))) want t d o l hid vds tail ks K fr st P) (h2:¬ p→XZ C (some (.sc (.bool false))) want t d o l hid vds tail ks K fr st P):XZ C (some (.sc (.bool (decide p)))) want t d o l hid vds tail ks K fr st P:=by
 by_cases h:p
 ·rw[bP h];exact h1 h
 ·rw[dK h];exact h2 h
theorem F3 {b:Bool} {want:Bool} {t:Nat} {d:Option Nat} {o:K3} {l:List i7} {hid:List (List Bool)} {vds:List (Nat × Bool)} {tail:List i7} {ks:List Nat} (h1:b=true→XZ C (some (.sc (.bool true))) want t d o l hid vds tail ks K fr st P) (h2:b=false→XZ C (some (.sc (.bool false))) want t d o l hid vds tail ks K fr st P):XZ C (some (.sc (.bool b))) want t d o l hid vds tail ks K fr st P:=by
 cases b
 ·exact h2 rfl
 ·exact h1 rfl
end
def bX2 (k n:Nat):Option Obj→Option D
 |some (.row _ e _ _ l)=>if k+n*e≤l.length then some (.sl 0 n ((l.drop k).take (n*e))) else none
 |_=>none
def bX1 (s n:Nat):Option Obj→Option D
 |some (.gro _ e _ l)=>if l.length=n*e∧s ≠ 0∧s ≠ 1∧e ≠ 0 then some (.sl s n l) else none
 |_=>none
theorem aA2 (H:E4) (o k n c:Nat):cY H (.ref o k n c)=bX2 k n (f8 H o):=by
 simp only[cY]
 cases f8 H o with
 |none=>rfl
 |some ob=>cases ob<;>rfl
theorem aZ8 (H:E4) (s o n:Nat):cY H (.gr s o n)=bX1 s n (f8 H o):=by
 simp only[cY]
 cases f8 H o with
 |none=>rfl
 |some ob=>cases ob<;>rfl
theorem RJ (n t e:Nat) (g z:Bool) (l:List D) (h:l.length=n*e):bX2 0 n (some (.row t e g z l))=some (.sl 0 n l):=by
 simp only[bX2]
 rw[if_pos (by omega),List.drop_zero,List.take_of_length_le (by omega)]
theorem RH (s n t e:Nat) (z:Bool) (l:List D) (hs0:s ≠ 0) (hs1:s ≠ 1) (he:e ≠ 0) (h:l.length=n*e):bX1 s n (some (.gro t e z l))=some (.sl s n l):=by
 simp only[bX1]
 rw[if_pos ⟨h,hs0,hs1,he⟩]
theorem aZ9 (H:E4) (x:Value):cY H (.sc x)=some (.sc x):=(rfl)
theorem bA0 (H:E4) (s n:Nat) (l:List D) (h:JJ (.sl s n l)=true):cY H (.sl s n l)=some (.sl s n l):=by simp only[cY,h,if_true]
abbrev Src:=Option (Nat × List D × List Nat)
def R5 (H:E4) (e:Nat) (y:V):Src:=(Q7 y).bind fun m=>(J8 H e m y).map fun r=>(m,r.1,r.2)
def mA (H:E4) (e k n:Nat):Option Obj→Src
 |some (.row _ _ _ _ l)=>if k+n*e≤l.length then some (n,(l.drop k).take (n*e),[]) else none
 |some (.gro _ _ _ l)=>if k+n*e≤l.length∧n ≠ 0∧e ≠ 0 then some (n,(l.drop k).take (n*e),[]) else none
 |some (.box _ _ l)=>if k+n*e≤l.length then (cI H ((l.drop k).take (n*e))).map fun ds=>(n,ds,lN ((l.drop k).take (n*e))) else none
 |none=>none
def bK0 (e n:Nat):Option Obj→Src
 |some (.gro _ _ _ l)=>if l.length=n*e∧e ≠ 0 then some (n,l,[]) else none
 |_=>none
theorem sB (H:E4) (e o k n c:Nat):R5 H e (.ref o k n c)=mA H e k n (f8 H o):=by
 simp only[R5,OI,Option.bind_some,J8]
 cases f8 H o with
 |none=>rfl
 |some ob=>
  cases ob with
  |row t e' g z l=>simp only[mA];split<;>rfl
  |gro t e' z l=>simp only[mA];split<;>rfl
  |box t e' l=>
   simp only[mA]
   split
   ·cases cI H ((l.drop k).take (n*e))<;>rfl
   ·rfl
theorem QX (H:E4) (e s o n:Nat):R5 H e (.gr s o n)=bK0 e n (f8 H o):=by
 simp only[R5,bH1,Option.bind_some,J8]
 cases f8 H o with
 |none=>rfl
 |some ob=>
  cases ob with
  |gro t e' z l=>
   simp only[bK0,Nat.le_refl,true_and]
   split
   ·rename_i h;rw[List.take_of_length_le (by omega)];rfl
   ·rfl
  |_=>rfl
theorem zQ (H:E4) (e s n:Nat) (l:List D) (h:l.length=n*e):R5 H e (.sl s n l)=some (n,l,[]):=by
 simp only[R5,bH2,Option.bind_some,bW8 H e s n l h,Option.map_some]
theorem FX (H:E4) (e s n c:Nat) (l:List D) (h:l.length=n*e):R5 H e (.slk s n c l)=some (n,l,[]):=by
 simp only[R5,aT5,Option.bind_some,bK1 H e s n c l h,Option.map_some]
theorem FV (H:E4) (e n c:Nat):R5 H e (.sc (.slice none n c))=some (0,[],[]):=(rfl)
theorem sC (H:E4) (s:ByteArray):R5 H 1 (.sc (.string s))=some (s.size,s.data.toList.map (fun b=> .sc (.int .u8 b.toNat)),[]):=by
 simp only[R5,aT6,Option.bind_some,bK2,Option.map_some]
theorem FU (H:E4) (e n t e':Nat) (g z:Bool) (l:List D) (h:l.length=n*e):mA H e 0 n (some (.row t e' g z l))=some (n,l,[]):=by
 simp only[mA]
 rw[if_pos (by omega),List.drop_zero,List.take_of_length_le (by omega)]
def TG (d:Option D) (fz:List Nat):Src:=d.map fun d=>(1,[d],fz)
theorem sP (d:D) (fz:List Nat):TG (some d) fz=some (1,[d],fz):=(rfl)
theorem FT (H:E4) (t e':Nat) (v:V):mA H 1 0 1 (some (.box t e' [v]))=TG (cY H v) (wQ v):=by
 simp only[mA,TG]
 rw[if_pos (by simp)]
 simp only[List.drop_zero,Nat.mul_one,List.take_succ_cons,List.take_zero,cI,lN,List.append_nil]
 cases cY H v<;>rfl
theorem QW (e n t e':Nat) (z:Bool) (l:List D) (h:l.length=n*e) (he:e ≠ 0):bK0 e n (some (.gro t e' z l))=some (n,l,[]):=by
 simp only[bK0]
 rw[if_pos ⟨h,he⟩]
theorem XL (o k n c:Nat):wQ (.ref o k n c)= [o]:=(rfl)
theorem aQ2 (s o n:Nat):wQ (.gr s o n)= [o]:=(rfl)
theorem aQ4 (s n:Nat) (l:List D):wQ (.sl s n l)= []:=(rfl)
theorem aQ3 (x:Value):wQ (.sc x)= []:=(rfl)
def uZ (st:l8) (t e b s o n:Nat) (ob:Option Obj) (src:Src):Option (V × l8):=
 match ob,src with
 |some (.gro t' e' z l),some (m,new,fz)=>
  if T6 new && !Nat.beq e 0 && E1 st.ro st.own fz then (if Nat.ble st.ro o && !z && (Nat.beq s 2|| !Nat.beq n 0) && Nat.beq t' t && Nat.beq e' e && Nat.beq l.length (n*e) && Nat.ble (n+m) r4 && Nat.ble ((n+m)*b) r4 && !l7 o fz then
   some (.gr 2 st.next (n+m),⟨(st.next,.gro t e false (l++new))::C0 fz (H9 o st.own),st.next+1,st.ro⟩) else none) else none
 |_,_=>none
theorem RP (st:l8) (t e b s o n:Nat) (y:V):uB st t e b (.gr s o n) y=uZ st t e b s o n (f8 st.own o) (R5 st.own e y):=by
 simp only[uB,R5]
 cases Q7 y with
 |none=>simp only[Option.bind_none,uZ];cases f8 st.own o with|none=>rfl|some ob=>cases ob<;>rfl
 |some m=>
  simp only[Option.bind_some]
  cases J8 st.own e m y with
  |none=>simp only[Option.bind_none,Option.map_none,uZ];cases f8 st.own o with|none=>rfl|some ob=>cases ob<;>rfl
  |some r=>
   simp only[Option.bind_some,Option.map_some]
   cases f8 st.own o with
   |none=>simp only[uZ];split<;>rfl
   |some ob=>cases ob<;>simp only[uZ]<;>split<;>rfl
theorem LA (H:E4) (nx ro t e b s o n m:Nat) (l new:List D) (fz:List Nat) (hs:s=2∨n ≠ 0) (hro:ro≤o) (he:e ≠ 0) (hl:l.length=n*e) (hok:T6 new=true) (hrow:E1 ro H fz=true) (hof:l7 o fz=false) (h1:n+m≤1099511627776) (h2:(n+m)*b≤1099511627776):
  uZ ⟨H,nx,ro⟩ t e b s o n (some (.gro t e false l)) (some (m,new,fz))=some (.gr 2 nx (n+m),⟨(nx,.gro t e false (l++new))::C0 fz (H9 o H),nx+1,ro⟩):=by
 simp only[uZ,hok,hrow]
 rw[if_pos (by simp[SW.2 he]),if_pos]
 have hb:Nat.ble ro o=true:=by rw[Nat.ble_eq];exact hro
 have h3:Nat.ble (n+m) r4=true:=by rw[Nat.ble_eq];exact h1
 have h4:Nat.ble ((n+m)*b) r4=true:=by rw[Nat.ble_eq];exact h2
 have h5:Nat.beq l.length (n*e)=true:=i6.2 hl
 have h6:Nat.beq t t=true:=i6.2 rfl
 have h7:Nat.beq e e=true:=i6.2 rfl
 have h8:(Nat.beq s 2|| !Nat.beq n 0)=true:=by
  rw[Bool.or_eq_true,Bool.not_eq_true',SW]
  exact hs.imp i6.2 id
 simp only[hb,h3,h4,h5,h6,h7,h8,hof,Bool.not_false,Bool.and_self]
theorem RQ (H:E4) (nx t e b s o n:Nat) (y:V):mB H nx t e b (.gr s o n) y=none:=by
 simp only[mB]
 cases Q7 y with
 |none=>rfl
 |some m=>
  simp only[Option.bind_some]
  cases J8 H e m y with
  |none=>rfl
  |some r=>
   simp only[Option.bind_some]
   split
   ·rfl
   ·split<;>rfl
def HL (nx t e b:Nat) (src:Src):VO:=
 match src with
 |some (m,new,fz)=>if Nat.beq m 0 then some (.sc (.slice none 0 0),none,[]) else if T6 new && !Nat.beq e 0 then (if Nat.ble m r4 && Nat.ble (m*b) r4 then some (.gr 2 nx m,some (.gro t e false new),fz) else none) else none
 |none=>none
theorem vA (nx t e b m:Nat) (new:List D) (fz:List Nat) (hm:m ≠ 0) (he:e ≠ 0) (hok:T6 new=true) (h1:m≤1099511627776) (h2:m*b≤1099511627776):HL nx t e b (some (m,new,fz))=some (.gr 2 nx m,some (.gro t e false new),fz):=by
 simp only[HL]
 have h3:Nat.ble m r4=true:=by rw[Nat.ble_eq];exact h1
 have h4:Nat.ble (m*b) r4=true:=by rw[Nat.ble_eq];exact h2
 rw[if_neg (by rw[i6];exact hm),if_pos (by simp[hok,SW.2 he]),if_pos (by simp[h3,h4])]
theorem sO (nx t e b:Nat) (new:List D) (fz:List Nat):HL nx t e b (some (0,new,fz))=some (.sc (.slice none 0 0),none,[]):=(rfl)
def oA (nx t e b n c o k:Nat) (base src:Src):VO:=
 match src with
 |some (m,new,fz)=>if Nat.beq m 0 then some (.ref o k n c,none,[]) else if T6 new && !Nat.beq e 0 then (if Nat.blt c v6 && Nat.blt c (n+m) && Nat.ble (n+m) r4 && Nat.ble ((n+m)*b) r4 then
   (match base with|some (_,cs,fb)=>if T6 cs then some (.gr 2 nx (n+m),some (.gro t e false (cs++new)),fb++fz) else none|none=>none) else none) else none
 |none=>none
theorem sN (nx t e b n c o k m q:Nat) (cs new:List D) (fb fz:List Nat) (hm:m ≠ 0) (he:e ≠ 0) (hok:T6 new=true) (hcs:T6 cs=true) (hc:c<n+m) (h1:n+m≤1099511627776) (h2:(n+m)*b≤1099511627776):
  oA nx t e b n c o k (some (q,cs,fb)) (some (m,new,fz))=some (.gr 2 nx (n+m),some (.gro t e false (cs++new)),fb++fz):=by
 simp only[oA]
 have h3:Nat.ble (n+m) r4=true:=by rw[Nat.ble_eq];exact h1
 have h4:Nat.ble ((n+m)*b) r4=true:=by rw[Nat.ble_eq];exact h2
 have h5:Nat.blt c v6=true:=by rw[Nat.blt_eq];unfold v6;omega
 have h6:Nat.blt c (n+m)=true:=by rw[Nat.blt_eq];exact hc
 rw[if_neg (by rw[i6];exact hm),if_pos (by simp[hok,SW.2 he]),if_pos (by simp[h3,h4,h5,h6])]
 simp only[hcs,if_true]
theorem oB (nx t e b n c o k:Nat) (base:Src) (new:List D) (fz:List Nat):oA nx t e b n c o k base (some (0,new,fz))=some (.ref o k n c,none,[]):=(rfl)
theorem GJ (H:E4) (nx t e b:Nat) (y:V):mB H nx t e b (.sc (.slice none 0 0)) y=HL nx t e b (R5 H e y):=by
 simp only[mB,R5]
 cases Q7 y with
 |none=>rfl
 |some m=>
  simp only[Option.bind_some]
  cases J8 H e m y with
  |none=>rfl
  |some r=>rfl
theorem GK (H:E4) (nx t e b o k n c:Nat) (y:V):mB H nx t e b (.ref o k n c) y=oA nx t e b n c o k (mA H e k n (f8 H o)) (R5 H e y):=by
 have hs:(J8 H e n (.ref o k n c)).map (fun r=>(n,r.1,r.2))=mA H e k n (f8 H o):=by
  have:=sB H e o k n c
  simp only[R5,OI,Option.bind_some] at this
  exact this
 simp only[mB,R5]
 cases Q7 y with
 |none=>rfl
 |some m=>
  simp only[Option.bind_some]
  cases J8 H e m y with
  |none=>rfl
  |some r=>
   simp only[Option.bind_some,Option.map_some,oA,← hs]
   split
   ·rfl
   ·split
    ·split
     ·cases J8 H e n (.ref o k n c) with
      |none=>rfl
      |some q=>rfl
     ·rfl
    ·rfl
def KB (st:l8) (o k t e:Nat) (g:Bool) (l:List D) (fz:List Nat) (d:Option D):Option (V × l8):=d.bind fun d=>if Nat.blt k l.length && !l7 o fz && E1 st.ro st.own fz then some (.tup [],⟨A3 (C0 fz st.own) o (.row t e g false (l.set k d)),st.next,st.ro⟩) else none
theorem tX (st:l8) (o k t e:Nat) (g:Bool) (l:List D) (fz:List Nat) (d:D) (h:k<l.length) (h2:l7 o fz=false) (h3:E1 st.ro st.own fz=true):KB st o k t e g l fz (some d)=some (.tup [],⟨A3 (C0 fz st.own) o (.row t e g false (l.set k d)),st.next,st.ro⟩):=by
 simp only[KB,Option.bind_some]
 rw[if_pos (by simp[h,h2,h3])]
def stO (st:l8) (n o k:Nat) (v:V) (ob:Option Obj):Option (V × l8):=
 ((M6 v).bind fun cs=>if Nat.beq cs.length n then (if !Nat.ble st.ro o then none else match ob with
    |some (.box t e l)=>if cs.all bZ then (D8 l k cs).map fun l=>(⟨A3 st.own o (.box t e l),st.next,st.ro⟩:l8) else none
    |some (.row t e g z l)=>if z||l7 o (lN cs)|| !E1 st.ro st.own (lN cs) then none else (cI st.own cs).bind fun ds=>(D8 l k ds).map fun l=>(⟨A3 (C0 (lN cs) st.own) o (.row t e g false l),st.next,st.ro⟩:l8)
    |some (.gro t e z l)=>if z||l7 o (lN cs)||cs.isEmpty|| !E1 st.ro st.own (lN cs) then none else (cI st.own cs).bind fun ds=>(D8 l k ds).map fun l=>(⟨A3 (C0 (lN cs) st.own) o (.gro t e false l),st.next,st.ro⟩:l8)
    |none=>none) else none).map fun st=>(V.tup [],st)
theorem zU (st:l8) (n o k:Nat) (v:V):aZ6 st n (.ptr o k) v=stO st n o k v (f8 st.own o):=(rfl)
theorem QY (st:l8) (o k t e:Nat) (l:List V) (v:V) (hro:st.ro≤o) (hv:bZ v=true) (hk:k<l.length):stO st 1 o k v (some (.box t e l))=some (.tup [],⟨A3 st.own o (.box t e (l.set k v)),st.next,st.ro⟩):=by
 simp only[stO,fZ v hv,Option.bind_some,List.length_singleton]
 rw[if_pos (show Nat.beq 1 1=true from rfl),if_neg (by simp only[Bool.not_eq_true,LG];exact hro)]
 simp only[List.all_cons,hv,List.all_nil,Bool.and_true,if_true]
 rw[Z9 _ _ _ hk]
 rfl
theorem QZ (st:l8) (o t e n:Nat) (l m:List V) (hro:st.ro≤o) (hm:m.all bZ=true) (hn:m.length=n) (hl:m.length=l.length):stO st n o 0 (.agg m) (some (.box t e l))=some (.tup [],⟨A3 st.own o (.box t e m),st.next,st.ro⟩):=by
 simp only[stO,M6,hm,if_true,Option.bind_some]
 rw[if_pos (i6.2 hn),if_neg (by simp only[Bool.not_eq_true,LG];exact hro)]
 rw[pK _ _ _ (by omega)]
 simp only[List.take_zero,List.nil_append,Nat.zero_add,Option.map_some]
 rw[List.drop_eq_nil_of_le (by omega),List.append_nil]
theorem zS (st:l8) (o k t e:Nat) (g:Bool) (l:List D) (x:Value) (hro:st.ro≤o) (hk:k<l.length):stO st 1 o k (.sc x) (some (.row t e g false l))=some (.tup [],⟨A3 st.own o (.row t e g false (l.set k (.sc x))),st.next,st.ro⟩):=by
 simp only[stO,M6,Option.bind_some,List.length_singleton]
 rw[if_pos (show Nat.beq 1 1=true from rfl),if_neg (by simp only[Bool.not_eq_true,LG];exact hro)]
 simp only[lN,wQ,List.append_nil,l7,E1,Bool.not_true,Bool.or_false]
 rw[if_neg (by simp)]
 simp only[cI,cY,Option.bind_some,Option.map_some]
 rw[Z9 _ _ _ hk,z6]
 rfl
theorem zR (st:l8) (o k t e:Nat) (l:List D) (x:Value) (hro:st.ro≤o) (hk:k<l.length):stO st 1 o k (.sc x) (some (.gro t e false l))=some (.tup [],⟨A3 st.own o (.gro t e false (l.set k (.sc x))),st.next,st.ro⟩):=by
 simp only[stO,M6,Option.bind_some,List.length_singleton]
 rw[if_pos (show Nat.beq 1 1=true from rfl),if_neg (by simp only[Bool.not_eq_true,LG];exact hro)]
 simp only[lN,wQ,List.append_nil,l7,E1,Bool.not_true,Bool.or_false,List.isEmpty_cons]
 rw[if_neg (by simp)]
 simp only[cI,cY,Option.bind_some,Option.map_some]
 rw[Z9 _ _ _ hk,z6]
 rfl
theorem FY (st:l8) (o k t e:Nat) (g:Bool) (l:List D) (v:V) (hro:st.ro≤o) (hv:bZ v=true):stO st 1 o k v (some (.row t e g false l))=KB st o k t e g l (wQ v) (cY st.own v):=by
 simp only[stO,fZ v hv,Option.bind_some,List.length_singleton]
 rw[if_pos (show Nat.beq 1 1=true from rfl),if_neg (by simp only[Bool.not_eq_true,LG];exact hro)]
 simp only[lN,List.append_nil,Bool.false_or,cI,KB]
 cases cY st.own v with
 |none=>split<;>rfl
 |some d=>
  simp only[Option.bind_some,Option.map_some]
  cases h1:l7 o (wQ v)<;>cases h2:E1 st.ro st.own (wQ v)
  ·simp
  ·simp only[Bool.not_true,Bool.or_self,Bool.false_eq_true,if_false,Bool.not_false,Bool.and_true]
   by_cases hk:k<l.length
   ·rw[Z9 _ _ _ hk,if_pos (by rw[Nat.blt_eq];exact hk)];rfl
   ·rw[if_neg (by rw[Nat.blt_eq];exact hk)]
    have:D8 l k [d]=none:=by
     clear h1 h2
     induction l generalizing k with
     |nil=>cases k<;>rfl
     |cons x l ih=>
      cases k with
      |zero=>simp at hk
      |succ k=>simp only[D8];rw[ih k (by simpa using hk)];rfl
    rw[this];rfl
  ·simp
  ·simp
end Go.Itp
