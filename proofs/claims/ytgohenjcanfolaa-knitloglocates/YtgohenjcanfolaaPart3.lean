/- What is proved: the law KnitlogLocates returns true for every input.
   Texts: V7, V8, V9, V10, V11, V12, V13, V14, V15, V16, V17, Lib, Lib2, WalkW, Strs, V18.
-/
import Derived.Test.YtgohenjcanfolaaPart2
namespace Go.Itp
set_option linter.unusedVariables false
set_option linter.constructorNameAsVariable false
section
variable {E:D9} {H:D6} {heap:m0} {w:VW} {fr:D0} {frI:Fr} {n p:Nat} {v:V} {ob:Option Obj} {fz:List Nat}
theorem dL {H:D6}:∀ {l:List V} {ds:List D},X5 H l=some ds→ds.length=l.length
 | [],ds,h=>by simp only[X5,Option.some.injEq] at h;subst h;rfl
 |x::l,ds,h=>by
  simp only[X5,Option.bind_eq_some_iff,Option.map_eq_some_iff] at h
  obtain ⟨d,_,ds',h2,rfl⟩:=h
  simp[dL h2]
theorem MG {e m:Nat} {l:List D × List Nat} (h:K7 H e m v=some l) (hm:∀ n,R6 v=some n→m≤n):l.1.length=m*e:=by
 unfold K7 at h
 split at h
 ·split at h
  ·rename_i hc
   cases h
   have:=Nat.mul_le_mul_right e hc.2
   rw[List.length_take];omega
  ·cases h
 ·split at h
  ·rename_i hc
   cases h
   have:=Nat.mul_le_mul_right e hc.2
   rw[List.length_take];omega
  ·cases h
 ·split at h
  ·split at h
   ·cases h;rw[List.length_take,List.length_drop];omega
   ·cases h
  ·split at h
   ·cases h;rw[List.length_take,List.length_drop];omega
   ·cases h
  ·split at h
   ·simp only[Option.map_eq_some_iff] at h
    obtain ⟨ds,h1,rfl⟩:=h
    rw[dL h1,List.length_take,List.length_drop];omega
   ·cases h
  ·cases h
 ·split at h
  ·split at h
   ·rename_i hc
    cases h
    have:=Nat.mul_le_mul_right e hc.2.1
    rw[List.length_take];omega
   ·cases h
  ·cases h
 ·split at h
  ·rename_i hm0;cases h;rw[j7.1 hm0];simp
  ·cases h
 ·split at h
  ·rename_i s hc
   cases h
   simp only[Bool.and_eq_true,Nat.ble_eq] at hc
   rw[j7.1 hc.1,List.length_map,List.length_take]
   have:s.data.toList.length=s.size:=by simp
   omega
  ·cases h
 ·cases h
theorem lA {l:List D} {b k q:Nat} {blk:w7} (hb:g9 heap b=some blk) (h:l6 w l blk.cells) (hq:k+q≤l.length):∃ vs,G6 E heap ⟨b,k,some 0⟩ q=some vs∧l6 w ((l.drop k).take q) vs:=by
 have hl:=h.length
 exact ⟨_,dT hb (by omega),h.part k q⟩
def mH (E:D9) (heap:m0) (w:VW) (e m:Nat) (vI:Value) (r:List D × List Nat):Prop:=
 ∃ cs,r9 E heap e m vI=some cs∧cs.length=r.1.length∧cs.all B2=true∧∀ w',VW.le w w'→VI w w' r.2→VJ heap w w' r.2→l6 w' r.1 cs
theorem Q7 {e m:Nat} {vI:Value} {l:List D} (h:∃ cs,r9 E heap e m vI=some cs∧l6 w l cs):mH E heap w e m vI (l,[]):=by
 obtain ⟨cs,h1,h2⟩:=h
 exact ⟨cs,h1,h2.length,h2.one,fun w' k1 _ _=>h2.mono k1⟩
theorem MV {w:VW}:∀ {l:List V} {vs:List Value} {ds:List D},f9 w l vs→X5 H l=some ds→vs.all B2=true
 | [],vs,ds,h,ht=>by simp only[f9] at h;subst h;rfl
 |x::r,vs,ds,h,ht=>by
  simp only[X5,Option.bind_eq_some_iff,Option.map_eq_some_iff] at ht
  obtain ⟨d,h1,ds',h2,rfl⟩:=ht
  simp only[f9] at h
  obtain ⟨u,us,rfl,k1,k2⟩:=h
  have:bD x=true:=by
   cases x with
   |agg l=>simp[aL] at h1
   |tup l=>simp[aL] at h1
   |dead=>simp[aL] at h1
   |tok o=>simp[aL] at h1
   |_=>rfl
  simp only[List.all_cons,k1.one this,Bool.true_and]
  exact MV k2 h2
theorem W5 (hr:HR E H heap w) {e m:Nat} {r:List D × List Nat} {vI:Value} (hv:d7 w v vI) (h:K7 H e m v=some r) (hm:∀ n,R6 v=some n→m≤n):mH E heap w e m vI r:=by
 have hnil:∀ {u:Value},m=0→r=([],[])→(u= .slice none 0 0∨∃ a b c,u= .complex a b c)→mH E heap w e m u r:=by
  intro u h0 h1 h2
  subst h0 h1
  exact Q7 (by rcases h2 with rfl|⟨a,b,c,rfl⟩<;>exact ⟨[],rfl,by simp only[l6]⟩)
 unfold K7 at h
 split at h
 ·rename_i s n l
  split at h
  case isFalse=>cases h
  rename_i hc
  cases h
  have hle:=Nat.mul_le_mul_right e hc.2
  simp only[d7,A5] at hv
  rcases hv with ⟨a,c,rfl,i,_,hA,_⟩|⟨_,rfl,rfl,rfl|⟨_,a,b,c,rfl⟩⟩
  ·exact Q7 (iX hr i hA (m*e) (by omega))
  ·exact hnil (by omega) (by simp) (.inl rfl)
  ·exact hnil (by omega) (by simp) (.inr ⟨_,_,_,rfl⟩)
 ·rename_i s n c l
  split at h
  case isFalse=>cases h
  rename_i hc
  cases h
  have hle:=Nat.mul_le_mul_right e hc.2
  simp only[d7] at hv
  rcases hv with ⟨_,_,⟨a,rfl,i,hA⟩|⟨_,rfl,_,rfl,rfl⟩⟩
  ·exact Q7 (iX hr i hA (m*e) (by omega))
  ·exact hnil (by omega) (by simp) (.inl rfl)
 ·rename_i o k n c
  simp only[d7] at hv
  obtain ⟨k1,_,b',rfl,k3⟩:=hv
  split at h
  ·rename_i t e' g z l' ho
   split at h
   case isFalse=>cases h
   rename_i hc
   cases h
   obtain ⟨b,blk,m1,m2,m3⟩:=hr.obj o _ ho rfl
   have:=k3 b m1
   subst this
   exact Q7 (lA (E:=E) m2 m3.2.2.2 hc)
  ·rename_i t e' z l' ho
   split at h
   case isFalse=>cases h
   rename_i hc
   cases h
   have hne:(Obj.gro t e' z l').none=false:=by
    cases l' with
    |nil=>
     exfalso
     have:=Nat.mul_pos (Nat.pos_of_ne_zero hc.2.1) (Nat.pos_of_ne_zero hc.2.2)
     simp at hc;omega
    |cons=>rfl
   obtain ⟨b,blk,m1,m2,m3⟩:=hr.obj o _ ho hne
   have:=k3 b m1
   subst this
   exact Q7 (lA (E:=E) m2 m3.2.2.2 hc.1)
  ·rename_i t e' l' ho
   split at h
   case isFalse=>cases h
   rename_i hc
   simp only[Option.map_eq_some_iff] at h
   obtain ⟨ds,hd,rfl⟩:=h
   obtain ⟨b,blk,m1,m2,m3⟩:=hr.obj o _ ho rfl
   have:=k3 b m1
   subst this
   have hcl:=m3.2.2.2.length
   have hp:=m3.2.2.2.part k (m*e)
   refine ⟨(blk.cells.drop k).take (m*e),dT (E:=E) m2 (by omega),?_,MV hp hd,fun w' q1 q2 q3=>(sM hr q1 hp hd q2 q3).1⟩
   rw[dL hd,hp.length]
  ·cases h
 ·rename_i s o n
  split at h
  case h_2=>cases h
  rename_i t e' z l' ho
  split at h
  case isFalse=>cases h
  rename_i hc
  cases h
  have hle:=Nat.mul_le_mul_right e hc.2.1
  simp only[d7] at hv
  obtain ⟨k1,hv⟩:=hv
  rcases hv with ⟨rfl,rfl|⟨_,a,c,rfl,i⟩⟩|⟨hn,b',rfl,k3⟩
  ·have hl0:l'= []:=List.eq_nil_of_length_eq_zero (by rw[hc.1];simp)
   exact hnil (by omega) (by rw[hl0];simp) (.inl rfl)
  ·have hl0:l'= []:=List.eq_nil_of_length_eq_zero (by rw[hc.1];simp)
   subst hl0
   exact Q7 (iX hr i (x9.nil a) (m*e) (by (have:m=0:=by omega);subst this;simp))
  ·have hne:(Obj.gro t e' z l').none=false:=by
    cases l' with
    |nil=>
     exfalso
     have:=Nat.mul_pos (Nat.pos_of_ne_zero hn) (Nat.pos_of_ne_zero hc.2.2)
     simp at hc;omega
    |cons=>rfl
   obtain ⟨b,blk,m1,m2,m3⟩:=hr.obj o _ ho hne
   have:=k3 b m1
   subst this
   have:=lA (E:=E) (k:=0) (q:=m*e) m2 m3.2.2.2 (by omega)
   rw[List.drop_zero] at this
   exact Q7 this
 ·rename_i q1 q2
  split at h
  case isFalse=>cases h
  rename_i hm0
  cases h
  have hx:=hv.ok
  have:=hv.scv
  subst this
  simp only[D5,Bool.and_eq_true,j7] at hx
  obtain ⟨rfl,rfl⟩:=hx
  exact hnil (j7.1 hm0) rfl (.inl rfl)
 ·rename_i s
  split at h
  case isFalse=>cases h
  rename_i hc
  cases h
  simp only[Bool.and_eq_true,Nat.ble_eq] at hc
  have he:=j7.1 hc.1
  subst he
  have:=hv.scv
  subst this
  refine Q7 ⟨r6 (s.data.toList.take m),?_,oP _⟩
  have hsz:s.data.toList.length=s.size:=by simp
  show (D2 s.data.toList m).map r6=_
  rw[X1 _ _ (by omega)]
  rfl
 ·cases h
theorem mH.plain (hr:HR E H heap w) {e m:Nat} {vI:Value} {r:List D × List Nat} (h:mH E heap w e m vI r) (h2:r.2= []):∃ cs,r9 E heap e m vI=some cs∧l6 w r.1 cs:=by
 obtain ⟨cs,h1,_,_,h3⟩:=h
 exact ⟨cs,h1,h3 w ⟨fun _ _=>rfl,fun _ h=>h,Nat.le_refl _,fun _ _ _ h=>h⟩ (by rw[h2];intro o ho;cases ho) (by rw[h2];intro o ho;cases ho)⟩
theorem oV:∀ {l:List D} {bs:List UInt8} {cs:List Value},C0 l=some bs→l6 w l cs→bytesOf cs=some bs
 | [],bs,cs,h,hl=>by
  simp only[l6] at hl;subst hl
  simp only[C0,Option.some.injEq] at h;subst h;rfl
 | .sc (.int .u8 n)::r,bs,cs,h,hl=>by
  simp only[l6,A5] at hl
  obtain ⟨v,vs,rfl,⟨rfl,_⟩,h2⟩:=hl
  simp only[C0,Option.map_eq_some_iff] at h
  obtain ⟨bs',h1,rfl⟩:=h
  simp[bytesOf,oV h1 h2]
 | .sc (.int .i8 n)::r,bs,cs,h,hl=>by simp[C0] at h
 | .sc (.int .i16 n)::r,bs,cs,h,hl=>by simp[C0] at h
 | .sc (.int .i32 n)::r,bs,cs,h,hl=>by simp[C0] at h
 | .sc (.int .i64 n)::r,bs,cs,h,hl=>by simp[C0] at h
 | .sc (.int .u16 n)::r,bs,cs,h,hl=>by simp[C0] at h
 | .sc (.int .u32 n)::r,bs,cs,h,hl=>by simp[C0] at h
 | .sc (.int .u64 n)::r,bs,cs,h,hl=>by simp[C0] at h
 | .sc (.bool _)::r,bs,cs,h,hl=>by simp[C0] at h
 | .sc (.float _ _)::r,bs,cs,h,hl=>by simp[C0] at h
 | .sc (.complex _ _ _)::r,bs,cs,h,hl=>by simp[C0] at h
 | .sc (.string _)::r,bs,cs,h,hl=>by simp[C0] at h
 | .sc (.pointer _)::r,bs,cs,h,hl=>by simp[C0] at h
 | .sc (.slice _ _ _)::r,bs,cs,h,hl=>by simp[C0] at h
 | .sc (.map _)::r,bs,cs,h,hl=>by simp[C0] at h
 | .sc (.chan _)::r,bs,cs,h,hl=>by simp[C0] at h
 | .sc (.func _ _ _)::r,bs,cs,h,hl=>by simp[C0] at h
 | .sc (.nilFunc)::r,bs,cs,h,hl=>by simp[C0] at h
 | .sc (.iface _ _)::r,bs,cs,h,hl=>by simp[C0] at h
 | .sc (.nilIface)::r,bs,cs,h,hl=>by simp[C0] at h
 | .sc (.agg _)::r,bs,cs,h,hl=>by simp[C0] at h
 | .sc (.tuple _)::r,bs,cs,h,hl=>by simp[C0] at h
 | .sl _ _ _::r,bs,cs,h,hl=>by simp[C0] at h
theorem bJ2 (hr:HR E H heap w) (hf:FR w fr frI) {x:Operand} (h:K6 E H w fr (.b2s x) v ob fz):J3 E heap w frI n p (.b2s x) v ob fz:=by
 simp only[K6,i6,Option.bind_eq_some_iff] at h
 obtain ⟨a,h1,h⟩:=h
 split at h
 case isFalse=>cases h
 rename_i hok
 simp only[Option.bind_eq_some_iff] at h
 obtain ⟨m,h2,l,h3,h⟩:=h
 split at h
 ·cases h
 rename_i hl2
 simp only[Bool.not_eq_true',Bool.not_eq_false,List.isEmpty_iff] at hl2
 simp only[Option.bind_eq_some_iff] at h
 obtain ⟨bs,h4,h⟩:=h
 cases h
 obtain ⟨aI,a1,a2⟩:=m6 hf h1
 obtain ⟨q1,q2⟩:=FA a2 h2
 have hls:R6 a=some m:=by
  unfold R6
  split
  ·rename_i s;exact absurd a2.scv (q2 s)
  ·exact h2
 obtain ⟨cs,c1,c2⟩:=(W5 hr a2 h3 (fun k hk=>by rw[hls] at hk;cases hk;exact Nat.le_refl _)).plain hr hl2
 have hb:=oV h4 c2
 refine ⟨_,[],?_,.pure (.mksc rfl)⟩
 simp only[d6,a1,Option.bind_some]
 have hcx:∀ k b e,aI ≠ .complex k b e:=by
  intro k b e ee
  subst ee
  cases a with
  |sl s k' l'=>
   simp only[d7,A5] at a2
   rcases a2 with ⟨_,_,e,_⟩|⟨_,h0,_,e|⟨hs,_⟩⟩
   ·cases e
   ·cases e
   ·exact (Y2 (l:=l').1 hok).elim (fun h=>h hs) (fun h=>h h0)
  |sc u=>have:=a2.ok;have h':=a2.scv;subst h';cases this
  |slk s k' c' l'=>simp only[d7] at a2;rcases a2 with ⟨_,_,⟨_,e,_⟩|⟨_,_,_,_,e⟩⟩<;>cases e
  |ref o k' i c'=>simp only[d7] at a2;obtain ⟨_,_,_,e,_⟩:=a2;cases e
  |gr s o k'=>simp only[d7] at a2;rcases a2 with ⟨_,⟨_,e|⟨_,_,_,e,_⟩⟩|⟨_,_,e,_⟩⟩<;>cases e
  |_=>simp[U6] at h2
 unfold lenA at q1
 split at q1
 ·rename_i ad k c
  cases q1
  cases ad with
  |none=>
   simp only[r9] at c1
   split at c1
   ·cases c1
    simp only[bytesOf,Option.some.injEq] at hb
    subst hb
    rfl
   ·cases c1
  |some ad=>
   simp only[r9,Nat.mul_one] at c1
   simp[c1,hb]
 ·exact absurd rfl (hcx _ _ _)
 ·exact absurd rfl (q2 _)
 ·cases q1
theorem aM7 (hr:HR E H heap w) {t:TypeId} {e b:Nat} {x y:V} {xI yI:Value} (hx:d7 w x xI) (hy:d7 w y yI) (h:kW H w.nx t e b x y=some (v,ob,fz)):∃ vI bs,W6 E ⟨heap,n,p⟩ t e b xI yI=some (vI,bs)∧kI heap w n v ob fz vI bs:=by
 simp only[kW,Option.bind_eq_some_iff] at h
 obtain ⟨m,hm,new,hnew,h⟩:=h
 have hlen:=nK hy hm
 split at h
 ·rename_i h0
  have key:∀ {a:Option Addr} {k c:Nat},xI= .slice a k c→F8 k c→W6 E ⟨heap,n,p⟩ t e b xI yI=some (xI,[]):=by
   intro a k c e1 e2
   subst e1
   simp only[W6,hlen,Option.bind_some]
   rw[if_pos h0,if_pos (by rw[Nat.ble_eq];exact e2)]
  split at h
  ·split at h
   case isFalse=>cases h
   rename_i hok
   cases h
   rw[Y2] at hok
   refine ⟨xI,[],?_,.pure hx⟩
   simp only[d7,A5] at hx
   rcases hx with ⟨a,c,rfl,_,k,_⟩|⟨_,rfl,_,rfl|⟨hs,_⟩⟩
   ·exact key rfl k
   ·exact key rfl (Nat.zero_le _)
   ·exact absurd hok (by omega)
  ·cases h
   refine ⟨xI,[],?_,.pure hx⟩
   simp only[d7] at hx
   rcases hx with ⟨hc,hn,⟨a,rfl,_⟩|⟨_,rfl,rfl,_,rfl⟩⟩
   ·exact key rfl (by unfold F8;rw[E0 hc];exact hn)
   ·exact key rfl (Nat.zero_le _)
  ·cases h
   refine ⟨xI,[],?_,.pure hx⟩
   simp only[d7] at hx
   obtain ⟨_,hc,b',rfl,_⟩:=hx
   exact key rfl hc
  ·cases h
   have hk:=hx.ok
   have:=hx.scv
   subst this
   simp only[D5,Bool.and_eq_true,j7] at hk
   obtain ⟨rfl,rfl⟩:=hk
   exact ⟨_,[],key rfl (Nat.zero_le _),.pure hx⟩
  ·cases h
 ·rename_i h0
  split at h
  case isFalse=>cases h
  rename_i hok
  simp only[Bool.and_eq_true,Bool.not_eq_true'] at hok
  have hm0:m ≠ 0:=by rw[j7] at h0;exact h0
  have he0:e ≠ 0:=by have:=hok.2;rw[← Bool.not_eq_true,j7] at this;exact this
  have hml:∀ k,R6 y=some k→m≤k:=fun k hk=>by rw[hm] at hk;cases hk;exact Nat.le_refl _
  obtain ⟨cs,c1,c0,c3,c2⟩:=W5 hr hy hnew hml
  have hnl:=MG hnew hml
  have hnn:new.1.length ≠ 0:=by
   have:=Nat.mul_pos (Nat.pos_of_ne_zero hm0) (Nat.pos_of_ne_zero he0);omega
  have key:∀ {a:Option Addr} {k c:Nat} {old:List D × List Nat},xI= .slice a k c→c<t8→c<k+m→k+m≤r5→(k+m)*b≤r5→mH E heap w e k xI old→P1 old.1=true→
    ∃ vI bs,W6 E ⟨heap,n,p⟩ t e b xI yI=some (vI,bs)∧kI heap w n (.gr 2 w.nx (k+m)) (some (.gro t e false (old.1++new.1))) (old.2++new.2) vI bs:=by
   intro a k c old e1 g1 g2 g3 g4 g5 g7
   obtain ⟨us,u1,u0,u3,u2⟩:=g5
   refine ⟨.slice (some ⟨n,0,some 0⟩) (k+m) (t8+(k+m)),[⟨us++cs,e,true,t⟩],?_,?_,rfl,?_,_,rfl,fun w' k1 k2 k3 k4 k5=>⟨.gr_new k4 k5 _ (by omega),rfl,rfl,rfl,
    (u2 w' k1 (fun o ho=>k2 o (List.mem_append.2 (.inl ho))) (fun o ho=>k3 o (List.mem_append.2 (.inl ho)))).append (c2 w' k1 (fun o ho=>k2 o (List.mem_append.2 (.inr ho))) (fun o ho=>k3 o (List.mem_append.2 (.inr ho))))⟩⟩
   ·subst e1
    simp only[W6,hlen,Option.bind_some]
    rw[if_neg h0,if_pos (by simp only[Bool.and_eq_true,Nat.ble_eq,Nat.blt_eq];exact ⟨⟨⟨g3,g4⟩,g1⟩,g2⟩),c1]
    simp only[Option.bind_some,u1,Option.map_some]
   ·cases h1:old.1++new.1 with
    |nil=>
     have:=congrArg List.length h1
     rw[List.length_append,List.length_nil] at this
     omega
    |cons=>rfl
   ·simp only[Obj.ok,P1,List.all_append,Bool.and_eq_true]
    exact ⟨g7,hok.1⟩
  have hsn:mH E heap w e 0 (.slice none 0 0) ([],[]):=Q7 ⟨[],rfl,by simp only[l6]⟩
  split at h
  ·split at h
   case isFalse=>cases h
   rename_i hc
   simp only[Bool.and_eq_true,Nat.ble_eq] at hc
   cases h
   have hk:=hx.ok
   have:=hx.scv
   subst this
   simp only[D5,Bool.and_eq_true,j7] at hk
   obtain ⟨rfl,rfl⟩:=hk
   have:=key rfl (by unfold t8;omega) (by omega) (by rw[Nat.zero_add];exact hc.1) (by rw[Nat.zero_add];exact hc.2) hsn rfl
   simpa only[Nat.zero_add,List.nil_append] using this
  ·rename_i s k c l
   split at h
   case isFalse=>cases h
   rename_i hc
   simp only[Bool.and_eq_true,Nat.ble_eq,Nat.blt_eq] at hc
   obtain ⟨g0,⟨⟨g2,g7⟩,g3⟩,g4⟩:=hc
   cases h
   have hx':=hx
   simp only[d7] at hx
   have hsrc:K7 H e k (.slk s k c l)=some (l,[]):=by
    simp only[K7]
    rw[if_pos ⟨g0,Nat.le_refl _⟩,List.take_of_length_le (by omega)]
   have hso:=W5 hr hx' hsrc (fun j hj=>by simp[R6,U6] at hj;omega)
   rcases hx with ⟨hcb,hn,⟨a,rfl,_⟩|⟨_,rfl,rfl,_,rfl⟩⟩
   ·exact key rfl hcb g2 g3 g4 hso g7
   ·exact key rfl hcb g2 g3 g4 hso g7
  ·rename_i o k j c
   split at h
   case isFalse=>cases h
   rename_i hc
   simp only[Bool.and_eq_true,Nat.ble_eq,Nat.blt_eq] at hc
   obtain ⟨⟨⟨g1,g2⟩,g3⟩,g4⟩:=hc
   simp only[Option.bind_eq_some_iff] at h
   obtain ⟨l,hsrc,h⟩:=h
   split at h
   case isFalse=>cases h
   rename_i g7
   cases h
   have hso:=W5 hr hx hsrc (fun i hi=>by simp[R6,U6] at hi;omega)
   simp only[d7] at hx
   obtain ⟨_,_,b',rfl,_⟩:=hx
   exact key rfl g1 g2 g3 g4 hso g7
  ·cases h
theorem bJ1 (hr:HR E H heap w) (hf:FR w fr frI) {t:TypeId} {e b:Nat} {x y:Operand} (h:K6 E H w fr (.app t e b x y) v ob fz):J3 E heap w frI n p (.app t e b x y) v ob fz:=by
 simp only[K6,i6,Option.bind_eq_some_iff] at h
 obtain ⟨a,h1,c,h2,h⟩:=h
 obtain ⟨aI,a1,a2⟩:=m6 hf h1
 obtain ⟨bI,b1,b2⟩:=m6 hf h2
 obtain ⟨vI,bs,e1,e2⟩:=aM7 hr a2 b2 h (n:=n) (p:=p)
 exact ⟨vI,bs,by simp[d6,a1,b1,e1],e2⟩
theorem aW7 (hf:FR w fr frI) {g lit:Bool} {ts:List TypeId} {x y:Operand} (h:K6 E H w fr (.eqIf g lit ts x y) v ob fz):J3 E heap w frI n p (.eqIf g lit ts x y) v ob fz:=by
 simp only[K6,i6,Option.bind_eq_some_iff] at h
 obtain ⟨a,h1,c,h2,h⟩:=h
 obtain ⟨aI,a1,a2⟩:=m6 hf h1
 obtain ⟨bI,b1,b2⟩:=m6 hf h2
 split at h
 ·simp only[Option.bind_eq_some_iff] at h
  obtain ⟨r,hr,h⟩:=h
  cases h
  rw[a2.scv] at a1
  rw[b2.scv] at b1
  exact ⟨_,[],by simp[d6,a1,b1,hr],.pure (.mksc rfl)⟩
 ·cases h
  rw[b2.scv] at b1
  simp only[d7] at a2
  obtain ⟨u,rfl,_⟩:=a2
  exact ⟨_,[],by simp[d6,a1,b1,tY],.pure (.mksc rfl)⟩
 ·cases h
theorem qR:∀ {ps:List (Nat × Nat)} {xs ys:List V} {cs ds:List Value} {q:Bool},Q1 ps xs ys=some q→f9 w xs cs→f9 w ys ds→aT ps cs ds=some q
 | [],xs,ys,cs,ds,q,h,_,_=>h
 |(o,c)::r,xs,ys,cs,ds,q,h,h1,h2=>by
  simp only[Q1] at h
  cases hx:B7 xs o with
  |none=>rw[hx] at h;simp[W0,DO] at h
  |some x=>
   cases hy:B7 ys o with
   |none=>rw[hx,hy] at h;cases x<;>simp[W0,DO] at h
   |some y=>
    obtain ⟨a,ha,ra⟩:=gX h1 hx
    obtain ⟨b,hb,rb⟩:=gX h2 hy
    rw[hx,hy] at h
    simp only[aT,ha,hb,Option.bind_some]
    cases x<;>cases y<;>first|(simp[W0,DO] at h;done)|skip
    rename_i x y
    rw[ra.scv,rb.scv]
    simp only[W0] at h
    cases he:pD c x y with
    |none=>rw[he] at h;simp[DO] at h
    |some p=>
     rw[he] at h
     cases p with
     |false=>simpa [DO] using h
     |true=>simp only[DO] at h;simp only[Option.bind_some];exact qR h h1 h2
theorem aN6 (hf:FR w fr frI) {g:Bool} {ps:List (Nat × Nat)} {x y:Operand} (h:K6 E H w fr (.eqAgg g ps x y) v ob fz):J3 E heap w frI n p (.eqAgg g ps x y) v ob fz:=by
 simp only[K6,i6,Option.bind_eq_some_iff,Option.map_eq_some_iff] at h
 obtain ⟨a,h1,c,h2,r,h3,h⟩:=h
 cases h
 obtain ⟨aI,a1,a2⟩:=m6 hf h1
 obtain ⟨bI,b1,b2⟩:=m6 hf h2
 unfold lI at h3
 split at h3
 case h_2=>cases h3
 rename_i xs ys
 simp only[Option.map_eq_some_iff] at h3
 obtain ⟨q,hq,rfl⟩:=h3
 simp only[d7] at a2 b2
 obtain ⟨cs,rfl,k1⟩:=a2
 obtain ⟨ds,rfl,k2⟩:=b2
 exact ⟨_,[],by simp[d6,a1,b1,OT,qR hq k1 k2],.pure (.mksc rfl)⟩
theorem aN8 (hr:HR E H heap w) (hf:FR w fr frI) {g:Bool} {x y:Operand} (h:K6 E H w fr (.eqPtr g x y) v ob fz):J3 E heap w frI n p (.eqPtr g x y) v ob fz:=by
 simp only[K6,i6,Option.bind_eq_some_iff] at h
 obtain ⟨a,h1,c,h2,h⟩:=h
 obtain ⟨aI,a1,a2⟩:=m6 hf h1
 obtain ⟨bI,b1,b2⟩:=m6 hf h2
 split at h
 ·simp only[Option.bind_eq_some_iff] at h
  obtain ⟨r,hr,h⟩:=h
  cases h
  rw[a2.scv] at a1
  rw[b2.scv] at b1
  exact ⟨_,[],by simp[d6,a1,b1,hr],.pure (.mksc rfl)⟩
 ·cases h
  rw[a2.scv] at a1
  simp only[d7] at b2
  obtain ⟨_,u,rfl,_⟩:=b2
  exact ⟨_,[],by simp[d6,a1,b1,fY],.pure (.mksc rfl)⟩
 ·cases h
  rw[b2.scv] at b1
  simp only[d7] at a2
  obtain ⟨_,u,rfl,_⟩:=a2
  exact ⟨_,[],by simp[d6,a1,b1,fY],.pure (.mksc rfl)⟩
 ·rename_i o k o' k'
  split at h
  case isFalse=>cases h
  rename_i hc
  obtain ⟨rfl,hc⟩:=hc
  split at h
  ·cases h
  rename_i hne
  cases h
  obtain ⟨obj,ho⟩:=Option.isSome_iff_exists.1 hc
  have hnn:obj.none=false:=by
   cases obj with
   |gro t e z l=>exact absurd ho (hne t e z l)
   |_=>rfl
  obtain ⟨b,blk,m1,m2,m3⟩:=hr.obj o _ ho hnn
  simp only[d7] at a2 b2
  obtain ⟨_,u,rfl,q1⟩:=a2
  obtain ⟨_,u',rfl,q2⟩:=b2
  rw[q1 b m1] at a1
  rw[q2 b m1] at b1
  refine ⟨_,[],?_,.pure (.mksc rfl)⟩
  simp[d6,a1,b1,fY]
 ·cases h
theorem aO1 (hr:HR E H heap w) (hf:FR w fr frI) {x:Operand} (h:K6 E H w fr (.toUns x) v ob fz):J3 E heap w frI n p (.toUns x) v ob fz:=by
 simp only[K6,i6,Option.bind_eq_some_iff] at h
 obtain ⟨a,h1,h⟩:=h
 obtain ⟨aI,a1,a2⟩:=m6 hf h1
 split at h
 ·cases h
  rw[a2.scv] at a1
  exact ⟨_,[],by simp[d6,a1],.pure (.mksc rfl)⟩
 ·rename_i o k
  split at h
  case h_2=>cases h
  rename_i t e0 l ho
  split at h
  case isFalse=>cases h
  rename_i hk
  cases h
  obtain ⟨b,blk,m1,m2,m3⟩:=hr.obj o _ ho rfl
  have a2':=a2
  simp only[d7] at a2
  obtain ⟨_,u,rfl,q⟩:=a2
  have:=q b m1
  subst this
  refine ⟨_,[],?_,.pure a2'⟩
  simp only[d6,a1,Option.bind_some,JU,m2]
  rw[if_pos (by rw[Nat.blt_eq] at hk ⊢;rw[m3.2.2.2.length];exact hk)]
 ·cases h
theorem QK (hr:HR E H heap w) (hf:FR w fr frI) {t:TypeId} {m:Nat} {x:Operand} (h:K6 E H w fr (.fromUns t m x) v ob fz):J3 E heap w frI n p (.fromUns t m x) v ob fz:=by
 simp only[K6,i6,Option.bind_eq_some_iff] at h
 obtain ⟨a,h1,h⟩:=h
 obtain ⟨aI,a1,a2⟩:=m6 hf h1
 split at h
 ·cases h
  rw[a2.scv] at a1
  exact ⟨_,[],by simp[d6,a1],.pure (.mksc rfl)⟩
 ·rename_i o k
  split at h
  case h_2=>cases h
  rename_i t' e0 l ho
  split at h
  case isFalse=>cases h
  rename_i hk
  cases h
  obtain ⟨b,blk,m1,m2,m3⟩:=hr.obj o _ ho rfl
  have a2':=a2
  simp only[d7] at a2
  obtain ⟨_,u,rfl,q⟩:=a2
  have:=q b m1
  subst this
  refine ⟨_,[],?_,.pure a2'⟩
  simp only[d6,a1,Option.bind_some,iR,m2]
  simp only[Bool.and_eq_true] at hk
  rw[if_pos (by simp only[Bool.and_eq_true,Bool.not_eq_true'];rw[m3.2.2.1,m3.2.1,m3.2.2.2.length];exact ⟨⟨⟨⟨hk.1.1.1,rfl⟩,hk.1.1.2⟩,hk.1.2⟩,hk.2⟩)]
 ·cases h
theorem aO0 (hf:FR w fr frI) {x:Operand} (h:K6 E H w fr (.sdata x) v ob fz):J3 E heap w frI n p (.sdata x) v ob fz:=by
 simp only[K6,i6,Option.bind_eq_some_iff] at h
 obtain ⟨a,h1,h⟩:=h
 obtain ⟨aI,a1,a2⟩:=m6 hf h1
 split at h
 ·cases h
  rw[a2.scv] at a1
  exact ⟨_,[],by simp[d6,a1],.pure (.mksc rfl)⟩
 ·rename_i o k j c
  split at h
  ·cases h
  rename_i hc
  cases h
  simp only[d7] at a2
  obtain ⟨q1,q2,u,rfl,q⟩:=a2
  refine ⟨_,[],by simp only[d6,a1,Option.bind_some];rw[if_neg hc],.pure ?_⟩
  simp only[d7]
  exact ⟨q1,u,rfl,q⟩
 ·rename_i s o j
  split at h
  ·cases h
  rename_i hc
  rw[j7] at hc
  cases h
  simp only[d7] at a2
  rcases a2 with ⟨q1,⟨h0,_⟩|⟨_,u,rfl,q⟩⟩
  ·exact absurd h0 hc
  refine ⟨.pointer (some ⟨u,0,some 0⟩),[],?_,.pure ?_⟩
  ·simp only[d6,a1,Option.bind_some]
   rw[if_neg]
   simp only[Bool.or_eq_true,j7]
   unfold t8
   omega
  ·simp only[d7]
   exact ⟨q1,u,rfl,q⟩
 ·cases h
theorem UI {z:List Value} {p:Value→Bool} (h:z.all p=true):∀ n,(rep z n).all p=true
 |0=>rfl
 |n+1=>by simp only[rep,List.all_append,Bool.and_eq_true];exact ⟨h,UI h n⟩
theorem bH4 {z:List Value} (h:z ≠ []) {n:Nat} (hn:0<n):rep z n ≠ []:=by
 cases n with
 |zero=>exact absurd hn (Nat.lt_irrefl 0)
 |succ n=>cases z with
  |nil=>exact absurd rfl h
  |cons a r=>simp[rep]
theorem aN2 (hr:HR E H heap w) (hf:FR w fr frI) {t:TypeId} {e b:Nat} {z:List Value} {x y:Operand} (h:K6 E H w fr (.appMk t e b z x y) v ob fz):J3 E heap w frI n p (.appMk t e b z x y) v ob fz:=by
 simp only[K6,i6,Option.bind_eq_some_iff] at h
 obtain ⟨a,h1,c,h2,h⟩:=h
 obtain ⟨xI,a1,hx⟩:=m6 hf h1
 obtain ⟨bI,b1,b2⟩:=m6 hf h2
 unfold lY at h
 split at h
 case h_2=>cases h
 rename_i k
 rw[b2.scv] at b1
 have fin:∀ {vI:Value} {bs:List w7},lB E ⟨heap,n,p⟩ t e b z xI (.int .i64 k)=some (vI,bs)→kI heap w n v ob fz vI bs→J3 E heap w frI n p (.appMk t e b z x y) v ob fz:=fun h1 h2=>
  ⟨_,_,by simp only[d6,a1,b1,Option.bind_some];exact h1,h2⟩
 split at h
 ·rename_i h0
  subst h0
  have key:∀ {a:Option Addr} {k c:Nat},xI= .slice a k c→F8 k c→lB E ⟨heap,n,p⟩ t e b z xI (.int .i64 0)=some (xI,[]):=by
   intro a k c e1 e2
   subst e1
   simp only[lB]
   rw[if_pos trivial,if_pos (by rw[Nat.ble_eq];exact e2)]
  split at h
  ·split at h
   case isFalse=>cases h
   rename_i hok
   cases h
   rw[Y2] at hok
   have hx':=hx
   simp only[d7,A5] at hx
   rcases hx with ⟨a,c,rfl,_,k,_⟩|⟨_,rfl,_,rfl|⟨hs,_⟩⟩
   ·exact fin (key rfl k) (.pure hx')
   ·exact fin (key rfl (Nat.zero_le _)) (.pure hx')
   ·exact absurd hok (by omega)
  ·cases h
   have hx':=hx
   simp only[d7] at hx
   rcases hx with ⟨hc,hn,⟨a,rfl,_⟩|⟨_,rfl,rfl,_,rfl⟩⟩
   ·exact fin (key rfl (by unfold F8;rw[E0 hc];exact hn)) (.pure hx')
   ·exact fin (key rfl (Nat.zero_le _)) (.pure hx')
  ·cases h
   have hx':=hx
   simp only[d7] at hx
   obtain ⟨_,hc,b',rfl,_⟩:=hx
   exact fin (key rfl hc) (.pure hx')
  ·cases h
   have hk:=hx.ok
   have:=hx.scv
   subst this
   simp only[D5,Bool.and_eq_true,j7] at hk
   obtain ⟨rfl,rfl⟩:=hk
   exact fin (key rfl (Nat.zero_le _)) (.pure hx)
  ·cases h
 ·rename_i h0
  split at h
  case isFalse=>cases h
  rename_i hc
  obtain ⟨c1,c2,c3,c4⟩:=hc
  have hrz:=l6.sc (w:=w) (rep z k.toNat) (UI c3 _)
  have hrn:rep z k.toNat ≠ []:=bH4 c4 (by omega)
  have key:∀ {a:Option Addr} {j c:Nat} {old:List D},xI= .slice a j c→c<t8→c<j+k.toNat→j+k.toNat≤r5→(j+k.toNat)*b≤r5→mH E heap w e j xI (old,[])→P1 old=true→
    v= .gr 2 w.nx (j+k.toNat)→ob=some (.gro t e false (old++lU (rep z k.toNat)))→fz= []→J3 E heap w frI n p (.appMk t e b z x y) v ob fz:=by
   intro a j c old e1 g1 g2 g3 g4 g5 g7 r1 r2 r3
   subst r1 r2 r3
   obtain ⟨us,u1,u0,u3,u2⟩:=g5
   refine fin (vI:= .slice (some ⟨n,0,some 0⟩) (j+k.toNat) (t8+(j+k.toNat))) (bs:= [⟨us++rep z k.toNat,e,true,t⟩]) ?_ ⟨?_,rfl,?_,_,rfl,fun w' k1 k2 k3 k4 k5=>⟨.gr_new k4 k5 _ (by omega),rfl,rfl,rfl,
    (u2 w' k1 (fun o ho=>by cases ho) (fun o ho=>by cases ho)).append (hrz.mono k1)⟩⟩
   ·subst e1
    simp only[lB]
    rw[if_neg h0,if_pos ⟨c1,c2⟩,if_pos (by
     simp only[Bool.and_eq_true,Nat.ble_eq,Nat.blt_eq,Bool.not_eq_true',← Bool.not_eq_true];exact ⟨⟨⟨g3,g4⟩,g1⟩,by omega⟩),u1]
    rfl
   ·cases h1:old++lU (rep z k.toNat) with
    |nil=>
     have:=congrArg List.length h1
     simp only[List.length_append,List.length_nil,lU,List.length_map] at this
     exact absurd (List.eq_nil_of_length_eq_zero (by omega)) hrn
    |cons=>rfl
   ·simp only[Obj.ok,P1,List.all_append,Bool.and_eq_true]
    exact ⟨g7,PI _⟩
  have hsn:mH E heap w e 0 (.slice none 0 0) ([],[]):=Q7 ⟨[],rfl,by simp only[l6]⟩
  split at h
  ·split at h
   case isFalse=>cases h
   rename_i hc
   rw[Nat.ble_eq] at hc
   cases h
   have hk:=hx.ok
   have:=hx.scv
   subst this
   simp only[D5,Bool.and_eq_true,j7] at hk
   obtain ⟨rfl,rfl⟩:=hk
   exact key rfl (by unfold t8;omega) (by omega) (by unfold r5 at c2 ⊢;omega) (by rw[Nat.zero_add];exact hc) hsn rfl (by rw[Nat.zero_add]) rfl rfl
  ·rename_i s j c l
   split at h
   case isFalse=>cases h
   rename_i hc
   simp only[Bool.and_eq_true,Nat.ble_eq,Nat.blt_eq] at hc
   obtain ⟨g0,⟨⟨g2,g7⟩,g3⟩,g4⟩:=hc
   cases h
   have hx':=hx
   simp only[d7] at hx
   have hsrc:K7 H e j (.slk s j c l)=some (l,[]):=by
    simp only[K7]
    rw[if_pos ⟨g0,Nat.le_refl _⟩,List.take_of_length_le (by omega)]
   have hso:=W5 hr hx' hsrc (fun i hi=>by simp[R6,U6] at hi;omega)
   rcases hx with ⟨hcb,hn,⟨a,rfl,_⟩|⟨_,rfl,rfl,_,rfl⟩⟩
   ·exact key rfl hcb g2 g3 g4 hso g7 rfl rfl rfl
   ·exact key rfl hcb g2 g3 g4 hso g7 rfl rfl rfl
  ·cases h
theorem qE (hr:HR E H heap w) (hf:FR w fr frI) {op:K8} (h:i6 E.old fr H w.nx op=some (v,ob,fz)):∃ vI bs,d6 E frI ⟨heap,n,p⟩ op=some (vI,bs)∧kI heap w n v ob fz vI bs:=by
 cases op with
 |mov x=>exact bJ9 hf h
 |pick c a b=>exact aX6 hf h
 |alloc t z=>exact aN1 h
 |box t x=>exact bJ4 hf h
 |build z ps=>exact aN3 hf h
 |mkRow t e n z ps=>exact aN9 hf h
 |load g a=>exact aX3 hr hf h
 |nilChk x=>exact YB hf h
 |bin op x y=>exact bJ3 hf h
 |eqB g x y=>exact bJ6 hf h
 |eqNil k g x y=>exact aN7 hf h
 |un op x=>exact bQ4 hf h
 |convI k x=>exact aN4 hf h
 |convS x=>exact aN5 hf h
 |b2s x=>exact bJ2 hr hf h
 |mkSlice t e b z l c=>exact QL hf h
 |slcS x lo hi=>exact aX8 hf h
 |slc e x lo hi mx=>exact bK1 hf h
 |slcA n e x lo hi=>exact aX7 hf h
 |fldA o x=>exact aW8 hf h
 |fldV o g x=>exact aW9 hf h
 |idxS e x i=>exact aX1 hf h
 |idxA n e x i=>exact aX0 hf h
 |idxStr x i=>exact YA hf h
 |idxV n e g x i=>exact aX2 hf h
 |ext x i=>exact bJ7 hf h
 |mkFn f a b=>exact aX4 hf h
 |mkIf t x=>exact aX5 hf h
 |len t x=>exact bJ8 hf h
 |mm g x y=>exact bQ3 hf h
 |app t e b x y=>exact bJ1 hr hf h
 |appMk t e b z x y=>exact aN2 hr hf h
 |eqIf g l ts x y=>exact aW7 hf h
 |eqAgg g ps x y=>exact aN6 hf h
 |eqPtr g x y=>exact aN8 hr hf h
 |s2b t x=>exact bK0 hf h
 |cap x=>exact bJ5 hf h
 |rangeS x=>exact YC hf h
 |toUns x=>exact aO1 hr hf h
 |fromUns t n x=>exact QK hr hf h
 |sdata x=>exact aO0 hf h
 |_=>simp[i6] at h
end
section
variable {C:C6} {st:n4} {s:St} {μ:Nat→Option Nat} {F:Nat→Prop}
theorem S0 (fz:List Nat):∀ (H:D6) (i:Nat),i7 (D1 fz H) i=(i7 H i).map fun o=>if m8 i fz then o.froz else o
 | [],i=>rfl
 |(j,o)::r,i=>by
  simp only[D1]
  rw[m7,m7,S0 fz r i]
  by_cases h:i=j
  ·subst h;simp
  ·rw[if_neg h,if_neg h]
theorem aG (o:Obj):o.froz.none=o.none:=by
 cases o with
 |gro t e z l=>cases l<;>rfl
 |_=>rfl
theorem ER (o:Obj):o.froz.ok=o.ok:=by cases o<;>rfl
theorem uJ {w:VW} {o:Obj} {b:w7} (h:fN w o b):fN w o.froz b:=by cases o<;>exact h
theorem s5 (H:D6):D1 [] H=H:=by
 induction H with
 |nil=>rfl
 |cons x r ih=>obtain ⟨j,o⟩:=x;simp[D1,m8,ih]
theorem S3 {ro:Nat} {H:D6}:∀ {fz:List Nat},B0 ro H fz=true→∀ o ∈ fz,∃ ob,i7 H o=some ob∧ob.froz.fz=true∧ro≤o
 | [],_,o,h=>by cases h
 |i::r,h,o,ho=>by
  simp only[B0,Bool.and_eq_true,Nat.ble_eq] at h
  rcases List.mem_cons.1 ho with rfl|ho
  ·have:=h.1.2
   split at this
   ·rename_i e;exact ⟨_,e,rfl,h.1.1⟩
   ·rename_i e;exact ⟨_,e,rfl,h.1.1⟩
   ·cases this
  ·exact S3 h.2 o ho
theorem SR.hr (h:SR C st s μ F):HR C.E st.own s.heap (s8 C st s μ F):=⟨rfl,h.obj,fun b hb=>(h.lt b hb).2⟩
theorem bA5 {w:VW} {n0:Nat} {d:D} {v:Value} (h:A5 w d v) (hok:yL d=true):∀ i ∈ s7 n0 v,w.F i:=by
 intro i hi
 cases d with
 |sc x=>
  simp only[A5] at h
  rw[h.1,T3 n0 x h.2] at hi
  cases hi
 |sl s n l=>
  simp only[A5] at h
  rcases h with ⟨a,c,rfl,k,_⟩|⟨_,h0,_,rfl|⟨hs,_⟩⟩
  ·obtain ⟨b,o,sp⟩:=a
   cases sp with
   |none=>simp[s7,n8] at hi
   |some sp=>
    simp only[s7,n8] at hi
    split at hi
    ·simp at hi;subst hi;exact k
    ·cases hi
  ·simp[s7,n8] at hi
  ·exact ((Y2.1 hok).elim (fun h=>h hs) (fun h=>h h0)).elim
theorem uP {w:VW} {n0:Nat}:∀ {l:List D} {vs:List Value},l6 w l vs→P1 l=true→∀ i ∈ z0 n0 vs,w.F i
 | [],vs,h,_,i,hi=>by simp only[l6] at h;subst h;simp[z0] at hi
 |d::r,vs,h,hok,i,hi=>by
  simp only[l6] at h
  obtain ⟨v,vs',rfl,h1,h2⟩:=h
  simp only[P1,List.all_cons,Bool.and_eq_true] at hok
  simp only[z0,List.mem_append] at hi
  exact hi.elim (bA5 h1 hok.1 i) (uP h2 hok.2 i)
def Y9 (μ:Nat→Option Nat) (F:Nat→Prop) (fz:List Nat) (b:Nat):Prop:=F b∨∃ o ∈ fz,μ o=some b
theorem SR.row_cl (h:SR C st s μ F) {o b:Nat} {ob:Obj} (ho:i7 st.own o=some ob) (hr:ob.froz.fz=true) (hb:μ o=some b):∃ blk,g9 s.heap b=some blk∧∀ n,∀ i ∈ z0 n blk.cells,F i:=by
 obtain ⟨_,_,ob',e1,e2⟩:=h.dom o b hb
 rw[ho] at e1
 cases e1
 obtain ⟨b',blk,m1,m2,m3⟩:=h.obj o ob ho e2
 rw[hb] at m1
 cases m1
 refine ⟨blk,m2,?_⟩
 have hok:=(h.own o ob ho).2
 cases ob with
 |box t l=>cases hr
 |row t e g z l=>exact fun n=>uP m3.2.2.2 hok
 |gro t e z l=>exact fun n=>uP m3.2.2.2 hok
theorem SR.fin_ge (h:SR C st s μ F) {fz:List Nat} (hrow:B0 st.ro st.own fz=true) {b:Nat} (hb:Y9 μ F fz b):F b∨s.prot≤b:=by
 rcases hb with hb|⟨o,ho,e⟩
 ·exact .inl hb
 ·obtain ⟨ob,q1,q2,q3⟩:=S3 hrow o ho
  by_cases hz:ob.fz=true
  ·exact .inl (h.fz o ob b q1 e hz)
  ·exact .inr ((h.wr o ob b q1 e (by simpa using hz)).2 q3).1
theorem OG {E:D9} {heap:m0} {n:Nat} {blk:w7} {a:Addr} (h:a.spot=none∨a.block ≠ n):n7 E ((n,blk)::heap) a=n7 E heap a:=by
 obtain ⟨b,o,sp⟩:=a
 cases sp with
 |none=>rfl
 |some k=>
  have hb:b ≠ n:=by simpa using h
  simp only[n7]
  rw[m9,if_neg hb]
def KI (μ:Nat→Option Nat) (st:n4) (s:St):Option Obj→Nat→Option Nat
 |none=>μ
 |some _=>fun i=>if i=st.next then some s.next else μ i
theorem K3 (μ:Nat→Option Nat) (F:Nat→Prop):Y9 μ F []=F:=by
 funext b
 simp[Y9]
theorem SR.push (h:SR C st s μ F) {v:V} {ob:Option Obj} {fz:List Nat} {vI:Value} {bs:List w7} (hP:kI s.heap (s8 C st s μ F) s.next v ob fz vI bs) (hrow:B0 st.ro st.own fz=true):
  SR C (st.push ob fz) (s.push bs) (KI μ st s ob) (Y9 μ F fz)∧d7 (s8 C (st.push ob fz) (s.push bs) (KI μ st s ob) (Y9 μ F fz)) v vI∧VW.le (s8 C st s μ F) (s8 C (st.push ob fz) (s.push bs) (KI μ st s ob) (Y9 μ F fz))∧(∀ b,Y9 μ F fz b→F b∨s.prot≤b):=by
 cases ob with
 |none=>
  obtain ⟨rfl,rfl,hv⟩:=hP
  have e:st.push none []=st:=by simp[n4.push,s5]
  rw[e,nT,K3]
  exact ⟨h,hv,⟨fun _ _=>rfl,fun _ hb=>hb,Nat.le_refl _,fun _ _ _ hb=>hb⟩,fun _ hb=> .inl hb⟩
 |some o=>
  obtain ⟨hn,hz,hok,blk,rfl,hP⟩:=hP
  rw[X2]
  have hne:∀ o' b,μ o'=some b→b ≠ s.next:=fun o' b e=>Nat.ne_of_lt (h.dom o' b e).1
  let μ':Nat→Option Nat:=fun i=>if i=st.next then some s.next else μ i
  have hμn:μ st.next=none:=by
   cases e:μ st.next with
   |none=>rfl
   |some b=>have:=(h.dom _ b e).2.1;omega
  have hμ':∀ i b,μ' i=some b→(i=st.next∧b=s.next)∨(i ≠ st.next∧μ i=some b):=fun i b e=>by
   simp only[μ'] at e
   split at e
   ·rename_i hi;cases e;exact .inl ⟨hi,rfl⟩
   ·rename_i hi;exact .inr ⟨hi,e⟩
  have hle:VW.le (s8 C st s μ F) (s8 C (st.push (some o) fz) ⟨(s.next,blk)::s.heap,s.next+1,s.prot⟩ μ' (Y9 μ F fz)):=by
   refine ⟨fun a i=>OG ?_,fun b hb=> .inl hb,by simp[n4.push],fun i b hi e=>?_⟩
   ·obtain ⟨b,o',sp⟩:=a
    cases sp with
    |none=>exact .inl rfl
    |some k=>exact .inr (Nat.ne_of_lt (h.lt b i).1)
   ·rcases hμ' i b e with ⟨hi',_⟩|⟨_,e⟩
    ·simp only at hi;omega
    ·exact e
  have hF:∀ b,Y9 μ F fz b→b<s.next:=by
   rintro b (hb|⟨i,_,e⟩)
   ·exact (h.lt b hb).1
   ·exact (h.dom i b e).1
  have hget':∀ b,b<s.next→g9 ((s.next,blk)::s.heap) b=g9 s.heap b:=fun b hb=>by rw[m9,if_neg (by omega)]
  obtain ⟨p1,p2⟩:=hP _ hle (fun i hi b e=> .inr ⟨i,hi,e⟩) (fun i hi b e k sp blk' hb=>by
    simp only[n7,hget' b (hF b (.inr ⟨i,hi,e⟩)),hb,Option.bind_some,z8]) (by simp[n4.push]) (by simp[μ'])
  have hown:∀ i ob',i7 (st.push (some o) fz).own i=some ob'→(i=st.next∧ob'=o)∨(i ≠ st.next∧∃ ob0,i7 st.own i=some ob0∧ob'=if m8 i fz then ob0.froz else ob0):=fun i ob' e=>by
   simp only[n4.push] at e
   rw[m7] at e
   split at e
   ·rename_i hi;cases e;exact .inl ⟨hi,rfl⟩
   ·rename_i hi
    rw[S0] at e
    simp only[Option.map_eq_some_iff] at e
    obtain ⟨ob0,e1,e2⟩:=e
    exact .inr ⟨hi,ob0,e1,e2.symm⟩
  change SR C _ _ μ' _∧d7 (s8 C _ _ μ' _) v vI∧VW.le _ (s8 C _ _ μ' _)∧_
  refine ⟨⟨?_,?_,?_,?_,?_,?_,?_,?_,?_,?_,?_,?_,?_⟩,p1,hle,?_⟩
  ·intro i ob' e hn'
   rcases hown i ob' e with ⟨rfl,rfl⟩|⟨hi,ob0,e1,rfl⟩
   ·exact ⟨s.next,blk,by simp[μ'],by simp[m9],p2⟩
   ·have hn0:ob0.none=false:=by split at hn';(rw[aG] at hn';exact hn');exact hn'
    obtain ⟨b,blk0,m1,m2,m3⟩:=h.obj i ob0 e1 hn0
    refine ⟨b,blk0,by simp[μ',hi,m1],by simp only;rw[hget' b (h.dom i b m1).1];exact m2,?_⟩
    split
    ·exact uJ (m3.mono hle)
    ·exact m3.mono hle
  ·intro i ob' b e e2 hz'
   rcases hown i ob' e with ⟨rfl,rfl⟩|⟨hi,ob0,e1,rfl⟩
   ·have:b=s.next:=by rcases hμ' _ b e2 with ⟨_,hb⟩|⟨hi',_⟩;exact hb;exact absurd rfl hi'
    subst this
    exact ⟨fun hb=>Nat.lt_irrefl _ (hF _ hb),fun _=>⟨h.pr,fun hb=>by have:=(h.un _ hb).1;have:=h.n0;omega⟩⟩
   ·have e3:μ i=some b:=by rcases hμ' i b e2 with ⟨hi',_⟩|⟨_,e3⟩;exact absurd hi' hi;exact e3
    by_cases hf:m8 i fz=true
    ·rw[if_pos hf] at hz'
     obtain ⟨ob1,q1,q2,_⟩:=S3 hrow i ((l8 _ _).1 hf)
     rw[e1] at q1;cases q1
     rw[hz'] at q2;cases q2
    ·rw[if_neg hf] at hz'
     obtain ⟨w2,w3⟩:=h.wr i ob0 b e1 e3 hz'
     refine ⟨?_,w3⟩
     rintro (hb|⟨j,hj,ej⟩)
     ·exact w2 hb
     ·have:=h.inj i j b e3 ej
      subst this
      exact hf ((l8 _ _).2 hj)
  ·intro i ob' b e e2 hz'
   rcases hown i ob' e with ⟨rfl,rfl⟩|⟨hi,ob0,e1,rfl⟩
   ·rw[hz] at hz';cases hz'
   ·have e3:μ i=some b:=by rcases hμ' i b e2 with ⟨hi',_⟩|⟨_,e3⟩;exact absurd hi' hi;exact e3
    by_cases hf:m8 i fz=true
    ·exact .inr ⟨i,(l8 _ _).1 hf,e3⟩
    ·rw[if_neg hf] at hz'
     exact .inl (h.fz i ob0 b e1 e3 hz')
  ·intro i j b ei ej
   rcases hμ' i b ei with ⟨hi,hb⟩|⟨hi,ei⟩<;>rcases hμ' j b ej with ⟨hj,hb'⟩|⟨hj,ej⟩
   ·rw[hi,hj]
   ·exact absurd hb (hne j b ej)
   ·exact absurd hb' (hne i b ei)
   ·exact h.inj i j b ei ej
  ·intro i b e
   rcases hμ' i b e with ⟨rfl,rfl⟩|⟨hi,e⟩
   ·exact ⟨by simp,by simp[n4.push],o,by simp[n4.push,m7],hn⟩
   ·obtain ⟨d1,d2,ob0,d3,d4⟩:=h.dom i b e
    refine ⟨by simp only;omega,by simp only[n4.push];omega,(if m8 i fz then ob0.froz else ob0),?_,?_⟩
    ·simp only[n4.push]
     rw[m7,if_neg hi,S0,d3];rfl
    ·split
     ·rw[aG];exact d4
     ·exact d4
  ·intro b hb
   have hlt:=hF b hb
   refine ⟨by simp only;omega,?_⟩
   simp only
   rw[hget' b hlt]
   rcases hb with hb|⟨i,_,e⟩
   ·exact (h.lt b hb).2
   ·obtain ⟨_,_,ob0,d3,d4⟩:=h.dom i b e
    obtain ⟨b',blk0,m1,m2,_⟩:=h.obj i ob0 d3 d4
    rw[e] at m1;cases m1
    exact ⟨blk0,m2⟩
  ·intro b hb
   have hlt:=hF b hb
   simp only
   rw[hget' b hlt]
   rcases hb with hb|⟨i,hi,e⟩
   ·obtain ⟨blk0,c1,c2⟩:=h.cl b hb
    exact ⟨blk0,c1,fun n j hj=> .inl (c2 n j hj)⟩
   ·obtain ⟨ob0,q1,q2,_⟩:=S3 hrow i hi
    obtain ⟨blk0,c1,c2⟩:=h.row_cl q1 q2 e
    exact ⟨blk0,c1,fun n j hj=> .inl (c2 n j hj)⟩
  ·intro b hb
   obtain ⟨u1,u2⟩:=h.un b hb
   exact ⟨u1,by simp only;rw[hget' b (by have:=h.n0;omega)];exact u2⟩
  ·have:=h.n0;simp only;omega
  ·intro i ob' e
   rcases hown i ob' e with ⟨rfl,rfl⟩|⟨hi,ob0,e1,rfl⟩
   ·exact ⟨by simp[n4.push],hok⟩
   ·obtain ⟨o1,o2⟩:=h.own i ob0 e1
    refine ⟨by simp only[n4.push];omega,?_⟩
    split
    ·rw[ER];exact o2
    ·exact o2
  ·intro b blk' e
   simp only at e ⊢
   rw[m9] at e
   split at e
   ·omega
   ·have:=h.hb b blk' e;omega
  ·have:=h.pr;simp only;omega
  ·intro i b e hi
   rcases hμ' i b e with ⟨rfl,rfl⟩|⟨_,e⟩
   ·exact h.pr
   ·exact h.pb i b e hi
  ·rintro b (hb|hb)
   ·exact .inl hb
   ·exact h.fin_ge hrow (.inr hb)
theorem SR.upd (h:SR C st s μ F) {o b:Nat} {ob:Obj} {blk:w7} (ho:i7 st.own o=some ob) (hz:ob.fz=false) (hro:st.ro≤o) (hμ:μ o=some b) (hbk:g9 s.heap b=some blk) {fz:List Nat} (hrow:B0 st.ro st.own fz=true) (hof:o ∉ fz)
  {ob':Obj} {blk':w7} (hn':ob'.none=false) (hz':ob'.fz=false) (hok:ob'.ok=true) (hrep:∀ w',VW.le (s8 C st s μ F) w'→VI (s8 C st s μ F) w' fz→VJ s.heap (s8 C st s μ F) w' fz→fN w' ob' blk'):
  SR C ⟨B5 (D1 fz st.own) o ob',st.next,st.ro⟩ {s with heap:=A1 s.heap b blk'} μ (Y9 μ F fz)∧VW.le (s8 C st s μ F) (s8 C ⟨B5 (D1 fz st.own) o ob',st.next,st.ro⟩ {s with heap:=A1 s.heap b blk'} μ (Y9 μ F fz))∧s.prot≤b:=by
 obtain ⟨wr2,wr1'⟩:=h.wr o ob b ho hμ hz
 obtain ⟨wr1,wr3⟩:=wr1' hro
 have hFb:¬ Y9 μ F fz b:=by
  rintro (hb|⟨j,hj,ej⟩)
  ·exact wr2 hb
  ·have:=h.inj o j b hμ ej
   subst this
   exact hof hj
 have hgs:∀ j,g9 (A1 s.heap b blk') j=if j=b then some blk' else g9 s.heap j:=fun j=>M5 _ _ _ _ _ hbk
 have hle:VW.le (s8 C st s μ F) (s8 C ⟨B5 (D1 fz st.own) o ob',st.next,st.ro⟩ {s with heap:=A1 s.heap b blk'} μ (Y9 μ F fz)):=by
  refine ⟨fun a i=>?_,fun c hc=> .inl hc,Nat.le_refl _,fun i c _ e=>e⟩
  obtain ⟨c,k,sp⟩:=a
  cases sp with
  |none=>rfl
  |some sp=>
   have hcb:c ≠ b:=fun e=>by subst e;exact wr2 i
   simp only[n7,hgs c,if_neg hcb]
 have hrp:=hrep _ hle (fun i hi c e=> .inr ⟨i,hi,e⟩) (fun i hi c e k sp blk0 hc=>by
  have hcb:c ≠ b:=fun e'=>by subst e';exact hFb (.inr ⟨i,hi,e⟩)
  simp only[n7,hgs c,if_neg hcb,hc,Option.bind_some,z8])
 have hfo:∃ x,i7 (D1 fz st.own) o=some x:=by rw[S0,ho];exact ⟨_,rfl⟩
 obtain ⟨x0,hx0⟩:=hfo
 have hown:∀ i obj,i7 (B5 (D1 fz st.own) o ob') i=some obj→(i=o∧obj=ob')∨(i ≠ o∧∃ ob0,i7 st.own i=some ob0∧obj=if m8 i fz then ob0.froz else ob0):=fun i obj e=>by
  rw[F6 _ _ _ _ _ hx0] at e
  split at e
  ·rename_i hi;cases e;exact .inl ⟨hi,rfl⟩
  ·rename_i hi
   rw[S0] at e
   simp only[Option.map_eq_some_iff] at e
   obtain ⟨ob0,e1,e2⟩:=e
   exact .inr ⟨hi,ob0,e1,e2.symm⟩
 have hne:∀ i c,i ≠ o→μ i=some c→c ≠ b:=fun i c hi e hc=>by subst hc;exact hi (h.inj i o c e hμ)
 refine ⟨⟨?_,?_,?_,h.inj,?_,?_,?_,?_,h.n0,?_,?_,h.pr,h.pb⟩,hle,wr1⟩
 ·intro i obj e hn
  rcases hown i obj e with ⟨rfl,rfl⟩|⟨hi,ob0,e1,rfl⟩
  ·exact ⟨b,blk',hμ,by simp only;rw[hgs,if_pos rfl],hrp⟩
  ·have hn0:ob0.none=false:=by split at hn;(rw[aG] at hn;exact hn);exact hn
   obtain ⟨c,blk0,m1,m2,m3⟩:=h.obj i ob0 e1 hn0
   refine ⟨c,blk0,m1,by simp only;rw[hgs,if_neg (hne i c hi m1)];exact m2,?_⟩
   split
   ·exact uJ (m3.mono hle)
   ·exact m3.mono hle
 ·intro i obj c e e3 hzz
  rcases hown i obj e with ⟨rfl,rfl⟩|⟨hi,ob0,e1,rfl⟩
  ·rw[hμ] at e3;cases e3;exact ⟨hFb,fun _=>⟨wr1,wr3⟩⟩
  ·by_cases hf:m8 i fz=true
   ·rw[if_pos hf] at hzz
    obtain ⟨ob1,q1,q2,_⟩:=S3 hrow i ((l8 _ _).1 hf)
    rw[e1] at q1;cases q1
    rw[hzz] at q2;cases q2
   ·rw[if_neg hf] at hzz
    obtain ⟨w2,w3⟩:=h.wr i ob0 c e1 e3 hzz
    refine ⟨?_,w3⟩
    rintro (hb|⟨j,hj,ej⟩)
    ·exact w2 hb
    ·have:=h.inj i j c e3 ej
     subst this
     exact hf ((l8 _ _).2 hj)
 ·intro i obj c e e3 hzz
  rcases hown i obj e with ⟨rfl,rfl⟩|⟨hi,ob0,e1,rfl⟩
  ·rw[hz'] at hzz;cases hzz
  ·by_cases hf:m8 i fz=true
   ·exact .inr ⟨i,(l8 _ _).1 hf,e3⟩
   ·rw[if_neg hf] at hzz
    exact .inl (h.fz i ob0 c e1 e3 hzz)
 ·intro i c e
  obtain ⟨d1,d2,ob0,d3,d4⟩:=h.dom i c e
  refine ⟨d1,d2,?_⟩
  by_cases hi:i=o
  ·subst hi
   exact ⟨ob',by simp only;rw[F6 _ _ _ _ _ hx0,if_pos rfl],hn'⟩
  ·refine ⟨(if m8 i fz then ob0.froz else ob0),by simp only;rw[F6 _ _ _ _ _ hx0,if_neg hi,S0,d3];rfl,?_⟩
   split
   ·rw[aG];exact d4
   ·exact d4
 ·intro c hc
  have hcb:c ≠ b:=fun e=>by subst e;exact hFb hc
  simp only
  rw[hgs,if_neg hcb]
  rcases hc with hc|⟨i,_,e⟩
  ·exact h.lt c hc
  ·obtain ⟨d1,_,ob0,d3,d4⟩:=h.dom i c e
   obtain ⟨b',blk0,m1,m2,_⟩:=h.obj i ob0 d3 d4
   rw[e] at m1;cases m1
   exact ⟨d1,blk0,m2⟩
 ·intro c hc
  have hcb:c ≠ b:=fun e=>by subst e;exact hFb hc
  simp only
  rw[hgs,if_neg hcb]
  rcases hc with hc|⟨i,hi,e⟩
  ·obtain ⟨blk0,c1,c2⟩:=h.cl c hc
   exact ⟨blk0,c1,fun n j hj=> .inl (c2 n j hj)⟩
  ·obtain ⟨ob0,q1,q2,_⟩:=S3 hrow i hi
   obtain ⟨blk0,c1,c2⟩:=h.row_cl q1 q2 e
   exact ⟨blk0,c1,fun n j hj=> .inl (c2 n j hj)⟩
 ·intro c hc
  obtain ⟨u1,u2⟩:=h.un c hc
  have hcb:c ≠ b:=fun e=>by subst e;exact wr3 hc
  exact ⟨u1,by simp only;rw[hgs,if_neg hcb];exact u2⟩
 ·intro i obj e
  rcases hown i obj e with ⟨rfl,rfl⟩|⟨hi,ob0,e1,rfl⟩
  ·exact ⟨(h.own i ob ho).1,hok⟩
  ·obtain ⟨o1,o2⟩:=h.own i ob0 e1
   refine ⟨o1,?_⟩
   split
   ·rw[ER];exact o2
   ·exact o2
 ·intro c blk0 e
  simp only at e ⊢
  rw[hgs] at e
  split at e
  ·rename_i hc;subst hc;exact h.hb c blk hbk
  ·exact h.hb c blk0 e
theorem G7:∀ (h:m0) (i j:Nat),j ≠ i→g9 (G0 h i) j=g9 h j
 | [],i,j,_=>rfl
 |(k,u)::r,i,j,hj=>by
  simp only[G0]
  split
  ·rename_i hk
   have:=j7.1 hk
   subst this
   rw[m9,if_neg hj]
  ·rw[m9,m9,G7 r i j hj]
theorem aX:∀ (h:m0) (i j:Nat) (b:w7),g9 (G0 h i) j=some b→∃ c,g9 h j=some c
 | [],i,j,b,h=>by cases h
 |(k,u)::r,i,j,b,h=>by
  simp only[G0] at h
  rw[m9]
  split at h
  ·split
   ·exact ⟨_,rfl⟩
   ·exact ⟨_,h⟩
  ·rw[m9] at h
   split
   ·exact ⟨_,rfl⟩
   ·rename_i hj
    rw[if_neg hj] at h
    exact aX r i j b h
theorem SR.del (h:SR C st s μ F) {o b:Nat} {ob:Obj} (ho:i7 st.own o=some ob) (hz:ob.fz=false) (hro:st.ro≤o) (hμ:μ o=some b):
  SR C ⟨J4 o st.own,st.next,st.ro⟩ {s with heap:=G0 s.heap b} (fun i=>if i=o then none else μ i) F∧VW.le (s8 C st s μ F) (s8 C ⟨J4 o st.own,st.next,st.ro⟩ {s with heap:=G0 s.heap b} (fun i=>if i=o then none else μ i) F)∧s.prot≤b:=by
 obtain ⟨wr2,wr1'⟩:=h.wr o ob b ho hμ hz
 obtain ⟨wr1,wr3⟩:=wr1' hro
 have hle:VW.le (s8 C st s μ F) (s8 C ⟨J4 o st.own,st.next,st.ro⟩ {s with heap:=G0 s.heap b} (fun i=>if i=o then none else μ i) F):=by
  refine ⟨fun a i=>?_,fun c hc=>hc,Nat.le_refl _,fun i c _ e=>?_⟩
  ·obtain ⟨c,k,sp⟩:=a
   cases sp with
   |none=>rfl
   |some sp=>
    have hcb:c ≠ b:=fun e=>by subst e;exact wr2 i
    simp only[n7,G7 _ _ _ hcb]
  ·simp only at e
   split at e
   ·cases e
   ·exact e
 have hown:∀ i obj,i7 (J4 o st.own) i=some obj→i ≠ o∧i7 st.own i=some obj:=fun i obj e=>by
  rw[M2] at e
  split at e
  ·cases e
  ·rename_i hi;exact ⟨hi,e⟩
 have hne:∀ i c,i ≠ o→μ i=some c→c ≠ b:=fun i c hi e hc=>by subst hc;exact hi (h.inj i o c e hμ)
 refine ⟨⟨?_,?_,?_,?_,?_,?_,?_,?_,h.n0,?_,?_,h.pr,fun i c e hi=>?_⟩,hle,wr1⟩
 ·intro i obj e hn
  obtain ⟨hi,e1⟩:=hown i obj e
  obtain ⟨c,blk0,m1,m2,m3⟩:=h.obj i obj e1 hn
  exact ⟨c,blk0,by rw[if_neg hi];exact m1,by simp only;rw[G7 _ _ _ (hne i c hi m1)];exact m2,m3.mono hle⟩
 ·intro i obj c e e3 hzz
  obtain ⟨hi,e1⟩:=hown i obj e
  simp only[if_neg hi] at e3
  exact h.wr i obj c e1 e3 hzz
 ·intro i obj c e e3 hzz
  obtain ⟨hi,e1⟩:=hown i obj e
  simp only[if_neg hi] at e3
  exact h.fz i obj c e1 e3 hzz
 ·intro i j c e1 e2
  split at e1
  ·cases e1
  ·split at e2
   ·cases e2
   ·exact h.inj i j c e1 e2
 ·intro i c e
  split at e
  ·cases e
  ·rename_i hi
   obtain ⟨d1,d2,ob0,d3,d4⟩:=h.dom i c e
   exact ⟨d1,d2,ob0,by simp only;rw[M2,if_neg hi];exact d3,d4⟩
 ·intro c hc
  have hcb:c ≠ b:=fun e=>by subst e;exact wr2 hc
  rw[G7 _ _ _ hcb]
  exact h.lt c hc
 ·intro c hc
  have hcb:c ≠ b:=fun e=>by subst e;exact wr2 hc
  rw[G7 _ _ _ hcb]
  exact h.cl c hc
 ·intro c hc
  obtain ⟨u1,u2⟩:=h.un c hc
  have hcb:c ≠ b:=fun e=>by subst e;exact wr3 hc
  exact ⟨u1,by simp only;rw[G7 _ _ _ hcb];exact u2⟩
 ·intro i obj e
  obtain ⟨hi,e1⟩:=hown i obj e
  exact h.own i obj e1
 ·intro c blk0 e
  obtain ⟨c',e'⟩:=aX _ _ _ _ e
  exact h.hb c c' e'
 ·split at e
  ·cases e
  ·exact h.pb i c e hi
end
section
variable {C:C6} {st st':n4} {s:St} {μ:Nat→Option Nat} {F:Nat→Prop} {fr:D0} {frI:Fr} {v:V}
theorem hZ {α:Type}:∀ {l:List α} {k:Nat} {cs r:List α},C8 l k cs=some r→r.length=l.length
 |l,k,[],r,h=>by
  have:r=l:=by cases l<;>cases k<;>simp[C8] at h<;>first|exact h|exact h.symm
  rw[this]
 | [],k,c::cs,r,h=>by cases k<;>simp[C8] at h
 |x::l,0,c::cs,r,h=>by
  simp only[C8,Option.map_eq_some_iff] at h
  obtain ⟨r',h1,rfl⟩:=h
  simp[hZ h1]
 |x::l,k+1,c::cs,r,h=>by
  simp only[C8,Option.map_eq_some_iff] at h
  obtain ⟨r',h1,rfl⟩:=h
  simp[hZ h1]
theorem dB {α:Type}:∀ {l:List α} {k:Nat} {cs r:List α} {ls vs:List Value},C8 l k cs=some r→ls.length=l.length→vs.length=cs.length→∃ rs,O9 ls k vs=some rs
 |l,k,[],r,ls,vs,h,h1,h2=>by
  have:=List.eq_nil_of_length_eq_zero h2
  subst this
  exact ⟨ls,by cases ls<;>cases k<;>rfl⟩
 | [],k,c::cs,r,ls,vs,h,h1,h2=>by cases k<;>simp[C8] at h
 |x::l,k,c::cs,r,[],vs,h,h1,h2=>by simp at h1
 |x::l,k,c::cs,r,y::ls,[],h,h1,h2=>by simp at h2
 |x::l,0,c::cs,r,y::ls,z::vs,h,h1,h2=>by
  simp only[C8,Option.map_eq_some_iff] at h
  obtain ⟨r',hr',rfl⟩:=h
  obtain ⟨rs,g1⟩:=dB hr' (by simpa using h1) (by simpa using h2)
  exact ⟨z::rs,by simp[O9,g1]⟩
 |x::l,k+1,c::cs,r,y::ls,z::vs,h,h1,h2=>by
  simp only[C8,Option.map_eq_some_iff] at h
  obtain ⟨r',hr',rfl⟩:=h
  obtain ⟨rs,g1⟩:=dB (cs:=c::cs) (vs:=z::vs) hr' (by simpa using h1) (by simpa using h2)
  exact ⟨y::rs,by simp[O9,g1]⟩
theorem VW.le.refl (w:VW):VW.le w w:=⟨fun _ _=>rfl,fun _ h=>h,Nat.le_refl _,fun _ _ _ h=>h⟩
theorem VW.le.trans {a b c:VW} (h:VW.le a b) (k:VW.le b c):VW.le a c:=
 ⟨fun x i=>(k.ld x (h.inF i)).trans (h.ld x i),fun x i=>k.F x (h.F x i),Nat.le_trans h.nx k.nx,fun o x ho e=>h.μ o x ho (k.μ o x (Nat.lt_of_lt_of_le ho h.nx) e)⟩
def OD (C:C6) (st:n4) (s:St) (μ:Nat→Option Nat) (F:Nat→Prop) (r:Option (Value × St)) (v:V) (st':n4):Prop:=
 ∃ vI s' μ' F',r=some (vI,s')∧SR C st' s' μ' F'∧d7 (s8 C st' s' μ' F') v vI∧VW.le (s8 C st s μ F) (s8 C st' s' μ' F')∧s'.prot=s.prot∧s.next≤s'.next∧∀ b,F' b→F b∨s.prot≤b
theorem K0 {b k:Nat} {blk:w7} {vs cs:List Value} (hb:g9 s.heap b=some blk) (hp:s.prot≤b) (h1:vs.all B2=true) (hl:O9 blk.cells k vs=some cs):
  R4 s ⟨b,k,some 0⟩ vs=some {s with heap:=A1 s.heap b {blk with cells:=cs}}:=by
 simp only[R4,hb,Option.bind_some]
 rw[if_pos (by rw[Nat.ble_eq];exact hp),if_pos h1,hl]
 rfl
theorem wW {E:D9} {op:K8} {r:Option (Value × St)} (h1:d6 E frI s op=none) (h2:o9 E frI s op=r):step E frI s op=r:=by
 simp only[step,h1,h2]
theorem vE {i j:Nat}:Nat.beq i j=false↔i ≠ j:=by rw[← Bool.not_eq_true,j7]
theorem yF {i j:Nat}:(!Nat.ble i j)=false↔i≤j:=by
 rw[Bool.not_eq_false',Nat.ble_eq]
def bI3 (s:St) (n:Nat) (aI uI:Value):Option (Value × St):=
 match aI with
 | .pointer (some a)=>if Nat.beq uI.cells.toList.length n then (R4 s a uI.cells.toList).map (.tuple #[],·) else none
 |_=>none
def RM (E:D9) (s:St) (e:Nat) (dI xI:Value):Option (Value × St):=
 match dI with
 | .slice a n _=>(lenA xI).bind fun m=>(r9 E s.heap e (Nat.min m n) xI).bind fun cs=>
   match a with
   |some a=>(R4 s a cs).map (.int .i64 (Nat.min m n),·)
   |none=>some (.int .i64 (Nat.min m n),s)
 |_=>none
theorem YE (h:SR C st s μ F) {n:Nat} {a u:V} {aI uI:Value} (ha:d7 (s8 C st s μ F) a aI) (hu:d7 (s8 C st s μ F) u uI) (hs:GM st n a u=some st'):
  OD C st s μ F (bI3 s n aI uI) (.tup []) st':=by
 simp only[GM,Option.bind_eq_some_iff] at hs
 obtain ⟨cs,hc,hs⟩:=hs
 split at hs
 case isFalse=>cases hs
 rename_i hn
 obtain ⟨c1,c2⟩:=eW hu hc
 have hone:=c1.one c2
 split at hs
 case h_2=>cases hs
 rename_i o k
 split at hs
 ·cases hs
 rename_i hro
 simp only[Bool.not_eq_true,yF] at hro
 simp only[d7] at ha
 obtain ⟨_,b',rfl,q⟩:=ha
 have htup:∀ w:VW,d7 w (.tup []) (.tuple #[]):=fun w=>by simp only[d7,f9];exact ⟨[],rfl,rfl⟩
 have fin:∀ {ob:Obj} {b:Nat} {blk:w7} {fz:List Nat} {ob':Obj} {cs':List Value},i7 st.own o=some ob→ob.fz=false→μ o=some b→g9 s.heap b=some blk→B0 st.ro st.own fz=true→o ∉ fz→ob'.none=false→ob'.fz=false→ob'.ok=true→
   O9 blk.cells k uI.cells.toList=some cs'→(∀ w',VW.le (s8 C st s μ F) w'→VI (s8 C st s μ F) w' fz→VJ s.heap (s8 C st s μ F) w' fz→fN w' ob' {blk with cells:=cs'})→st'=⟨B5 (D1 fz st.own) o ob',st.next,st.ro⟩→
   OD C st s μ F (if Nat.beq uI.cells.toList.length n then (R4 s ⟨b',k,some 0⟩ uI.cells.toList).map (.tuple #[],·) else none) (.tup []) st':=by
  intro ob b blk fz ob' cs' e1 e2 e3 e4 e5 e6 e7 e8 e9 e10 e11 e12
  have:=q b e3
  subst this
  obtain ⟨g1,g2,g3⟩:=h.upd e1 e2 hro e3 e4 e5 e6 e7 e8 e9 e11
  subst e12
  refine ⟨.tuple #[],_,μ,Y9 μ F fz,?_,g1,htup _,g2,rfl,Nat.le_refl _,fun c hcf=>h.fin_ge e5 hcf⟩
  rw[c1.length,if_pos hn,K0 e4 g3 hone e10]
  rfl
 split at hs
 ·rename_i t e0 l ho
  simp only[Option.map_eq_some_iff] at hs
  obtain ⟨l',hl,rfl⟩:=hs
  obtain ⟨b,blk,m1,m2,m3⟩:=h.obj o _ ho rfl
  obtain ⟨rs,r1,r2⟩:=jQ hl m3.2.2.2 c1
  exact fin (fz:= []) (ob':= .box t e0 l') ho rfl m1 m2 rfl (by simp) rfl rfl rfl r1 (fun w' k1 k2 k3=>⟨m3.1,m3.2.1,m3.2.2.1,r2.mono k1⟩) (by rw[s5])
 ·rename_i t e g z l ho
  split at hs
  ·cases hs
  rename_i hcond
  simp only[Bool.or_eq_true,Bool.not_eq_true',not_or,Bool.not_eq_true,Bool.not_eq_false] at hcond
  obtain ⟨⟨hz,hof⟩,hrow⟩:=hcond
  simp only[Option.bind_eq_some_iff,Option.map_eq_some_iff] at hs
  obtain ⟨ds,hd,l',hl,rfl⟩:=hs
  obtain ⟨b,blk,m1,m2,m3⟩:=h.obj o _ ho rfl
  have hds:∀ w',VW.le (s8 C st s μ F) w'→VI (s8 C st s μ F) w' (jF cs)→VJ s.heap (s8 C st s μ F) w' (jF cs)→∃ rs,O9 blk.cells k uI.cells.toList=some rs∧l6 w' l' rs:=fun w' k1 k2 k3=>M9 hl (m3.2.2.2.mono k1) (sM h.hr k1 c1 hd k2 k3).1
  have hlen:∃ rs,O9 blk.cells k uI.cells.toList=some rs:=dB hl m3.2.2.2.length (by rw[c1.length,dL hd])
  obtain ⟨rs,hrs⟩:=hlen
  refine fin (fz:=jF cs) (ob':= .row t e g false l') ho hz m1 m2 hrow (fun hm=>by have:=(l8 _ _).2 hm;rw[hof] at this;cases this) rfl rfl ?_ hrs (fun w' k1 k2 k3=>?_) rfl
  ·exact J1 hl (h.own o _ ho).2 (wZ hd)
  ·obtain ⟨rs',q1,q2⟩:=hds w' k1 k2 k3
   rw[hrs] at q1;cases q1
   exact ⟨m3.1,m3.2.1,m3.2.2.1,q2⟩
 ·rename_i t e z l ho
  split at hs
  ·cases hs
  rename_i hcond
  simp only[Bool.or_eq_true,Bool.not_eq_true',not_or,Bool.not_eq_true,Bool.not_eq_false] at hcond
  obtain ⟨⟨⟨hz,hof⟩,hce⟩,hrow⟩:=hcond
  simp only[Option.bind_eq_some_iff,Option.map_eq_some_iff] at hs
  obtain ⟨ds,hd,l',hl,rfl⟩:=hs
  have hl0:l ≠ []∧l'.length=l.length:=by
   refine ⟨fun e0=>?_,hZ hl⟩
   subst e0
   cases ds with
   |nil=>have:=dL hd;cases cs with|nil=>cases hce|cons=>simp at this
   |cons=>cases k<;>simp[C8] at hl
  obtain ⟨b,blk,m1,m2,m3⟩:=h.obj o _ ho (by cases l with|nil=>exact absurd rfl hl0.1|cons=>rfl)
  have hds:∀ w',VW.le (s8 C st s μ F) w'→VI (s8 C st s μ F) w' (jF cs)→VJ s.heap (s8 C st s μ F) w' (jF cs)→∃ rs,O9 blk.cells k uI.cells.toList=some rs∧l6 w' l' rs:=fun w' k1 k2 k3=>M9 hl (m3.2.2.2.mono k1) (sM h.hr k1 c1 hd k2 k3).1
  have hlen:∃ rs,O9 blk.cells k uI.cells.toList=some rs:=dB hl m3.2.2.2.length (by rw[c1.length,dL hd])
  obtain ⟨rs,hrs⟩:=hlen
  refine fin (fz:=jF cs) (ob':= .gro t e false l') ho hz m1 m2 hrow (fun hm=>by have:=(l8 _ _).2 hm;rw[hof] at this;cases this) ?_ rfl ?_ hrs (fun w' k1 k2 k3=>?_) rfl
  ·cases l' with
   |nil=>exact absurd (List.eq_nil_of_length_eq_zero hl0.2.symm) hl0.1
   |cons=>rfl
  ·exact J1 hl (h.own o _ ho).2 (wZ hd)
  ·obtain ⟨rs',q1,q2⟩:=hds w' k1 k2 k3
   rw[hrs] at q1;cases q1
   exact ⟨m3.1,m3.2.1,m3.2.2.1,q2⟩
 ·cases hs
theorem pS {ro o:Nat} {H:D6}:∀ {fz:List Nat},B0 ro H fz=true→m8 o fz=false→B0 ro (J4 o H) fz=true
 | [],_,_=>rfl
 |i::r,h,hn=>by
  simp only[B0,Bool.and_eq_true] at h ⊢
  simp only[m8] at hn
  split at hn
  ·cases hn
  rename_i hi
  rw[j7] at hi
  refine ⟨⟨h.1.1,?_⟩,pS h.2 hn⟩
  rw[M2,if_neg (fun e=>hi e.symm)]
  exact h.1.2
theorem SR.grow (h:SR C st s μ F) {o b:Nat} {ob:Obj} {blk:w7} (ho:i7 st.own o=some ob) (hz:ob.fz=false) (hro:st.ro≤o) (hμ:μ o=some b) (hb:g9 s.heap b=some blk) {t:TypeId} {e m:Nat} {l:List D} {cs:List Value} {fz:List Nat}
  (hl:l ≠ []) (hok:P1 l=true) (hm:m ≠ 0) (hrow:B0 st.ro st.own fz=true) (hof:m8 o fz=false) (hr:∀ w',VW.le (s8 C st s μ F) w'→VI (s8 C st s μ F) w' fz→VJ s.heap (s8 C st s μ F) w' fz→l6 w' l cs):
  OD C st s μ F (some (.slice (some ⟨s.next,0,some 0⟩) m (t8+m),St.push {s with heap:=G0 s.heap b} [⟨cs,e,true,t⟩])) (.gr 2 st.next m) ⟨(st.next,.gro t e false l)::D1 fz (J4 o st.own),st.next+1,st.ro⟩∧s.prot≤b:=by
 obtain ⟨d1,d2,d3⟩:=h.del ho hz hro hμ
 have hP:kI (G0 s.heap b) (s8 C ⟨J4 o st.own,st.next,st.ro⟩ {s with heap:=G0 s.heap b} (fun i=>if i=o then none else μ i) F) s.next (.gr 2 st.next m) (some (.gro t e false l)) fz (.slice (some ⟨s.next,0,some 0⟩) m (t8+m)) [⟨cs,e,true,t⟩]:=
  ⟨by cases l with|nil=>exact absurd rfl hl|cons=>rfl,rfl,hok,_,rfl,fun w' k1 k2 k3 k4 k5=>⟨.gr_new k4 k5 m hm,rfl,rfl,rfl,hr w' (d2.trans k1) (fun i hi c e=>by
   refine k2 i hi c ?_
   have hio:i ≠ o:=fun e=>by subst e;have:=(l8 i fz).2 hi;rw[hof] at this;cases this
   simp only[if_neg hio];exact e) (fun i hi c e k sp bb hbb=>by
   have hio:i ≠ o:=fun e=>by subst e;have:=(l8 i fz).2 hi;rw[hof] at this;cases this
   have hcb:c ≠ b:=fun ec=>by subst ec;exact hio (h.inj i o c e hμ)
   exact k3 i hi c (by simp only[if_neg hio];exact e) k sp bb (by rw[G7 _ _ _ hcb];exact hbb))⟩⟩
 obtain ⟨p1,p2,p3,p4⟩:=d1.push hP (pS hrow hof)
 exact ⟨⟨_,_,_,_,rfl,p1,p2,d2.trans p3,rfl,by simp[St.push],p4⟩,d3⟩
theorem O1 {t:TypeId} {e:Nat} {z:Bool} {l:List D} (h:l ≠ []):(Obj.gro t e z l).none=false:=by
 cases l with
 |nil=>exact absurd rfl h
 |cons=>rfl
theorem SR.drop0 (h:SR C st s μ F) {o:Nat} {ob:Obj} (ho:i7 st.own o=some ob) (hn:ob.none=true):SR C ⟨J4 o st.own,st.next,st.ro⟩ s μ F:=by
 have hown:∀ i obj,i7 (J4 o st.own) i=some obj→i ≠ o∧i7 st.own i=some obj:=fun i obj e=>by
  rw[M2] at e
  split at e
  ·cases e
  ·rename_i hi;exact ⟨hi,e⟩
 refine ⟨fun i obj e hh=>h.obj i obj (hown i obj e).2 hh,fun i obj b e=>h.wr i obj b (hown i obj e).2,fun i obj b e=>h.fz i obj b (hown i obj e).2,h.inj,fun i b e=>?_,h.lt,h.cl,h.un,h.n0,fun i obj e=>h.own i obj (hown i obj e).2,h.hb,h.pr,h.pb⟩
 obtain ⟨d1,d2,ob',d3,d4⟩:=h.dom i b e
 refine ⟨d1,d2,ob',?_,d4⟩
 simp only
 rw[M2,if_neg]
 ·exact d3
 ·intro hi
  subst hi
  rw[ho] at d3
  cases d3
  rw[hn] at d4
  cases d4
theorem SR.rename (h:SR C st s μ F) {o:Nat} {ob:Obj} (ho:i7 st.own o=some ob) (hro:st.ro≤o):
  SR C ⟨(st.next,ob)::J4 o st.own,st.next+1,st.ro⟩ s (fun i=>if i=st.next then μ o else if i=o then none else μ i) F∧VW.le (s8 C st s μ F) (s8 C ⟨(st.next,ob)::J4 o st.own,st.next+1,st.ro⟩ s (fun i=>if i=st.next then μ o else if i=o then none else μ i) F):=by
 have hon:o<st.next:=(h.own o ob ho).1
 have hle:VW.le (s8 C st s μ F) (s8 C ⟨(st.next,ob)::J4 o st.own,st.next+1,st.ro⟩ s (fun i=>if i=st.next then μ o else if i=o then none else μ i) F):=by
  refine ⟨fun _ _=>rfl,fun _ h=>h,Nat.le_succ _,fun i b hi e=>?_⟩
  simp only at hi e
  rw[if_neg (by omega)] at e
  split at e
  ·cases e
  ·exact e
 have hown:∀ i obj,i7 ((st.next,ob)::J4 o st.own) i=some obj→(i=st.next∧obj=ob)∨(i ≠ st.next∧i ≠ o∧i7 st.own i=some obj):=fun i obj e=>by
  rw[m7] at e
  split at e
  ·rename_i hi;cases e;exact .inl ⟨hi,rfl⟩
  ·rename_i hi
   rw[M2] at e
   split at e
   ·cases e
   ·rename_i hi2;exact .inr ⟨hi,hi2,e⟩
 have hmu:∀ i b,(if i=st.next then μ o else if i=o then none else μ i)=some b→(i=st.next∧μ o=some b)∨(i ≠ st.next∧i ≠ o∧μ i=some b):=fun i b e=>by
  split at e
  ·rename_i hi;exact .inl ⟨hi,e⟩
  ·rename_i hi
   split at e
   ·cases e
   ·rename_i hi2;exact .inr ⟨hi,hi2,e⟩
 refine ⟨⟨?_,?_,?_,?_,?_,h.lt,h.cl,h.un,h.n0,?_,h.hb,h.pr,?_⟩,hle⟩
 ·intro i obj e hn
  rcases hown i obj e with ⟨rfl,rfl⟩|⟨h1,h2,e1⟩
  ·obtain ⟨b,blk,m1,m2,m3⟩:=h.obj o _ ho hn
   exact ⟨b,blk,by rw[if_pos rfl];exact m1,m2,m3.mono hle⟩
  ·obtain ⟨b,blk,m1,m2,m3⟩:=h.obj i obj e1 hn
   exact ⟨b,blk,by rw[if_neg h1,if_neg h2];exact m1,m2,m3.mono hle⟩
 ·intro i obj b e e2 hz
  rcases hown i obj e with ⟨rfl,rfl⟩|⟨h1,h2,e1⟩
  ·rcases hmu _ b e2 with ⟨_,e3⟩|⟨h3,_⟩
   ·obtain ⟨q1,q2⟩:=h.wr o _ b ho e3 hz
    exact ⟨q1,fun _=>q2 hro⟩
   ·exact absurd rfl h3
  ·rcases hmu i b e2 with ⟨h3,_⟩|⟨_,_,e3⟩
   ·exact absurd h3 h1
   ·exact h.wr i obj b e1 e3 hz
 ·intro i obj b e e2 hz
  rcases hown i obj e with ⟨rfl,rfl⟩|⟨h1,h2,e1⟩
  ·rcases hmu _ b e2 with ⟨_,e3⟩|⟨h3,_⟩
   ·exact h.fz o _ b ho e3 hz
   ·exact absurd rfl h3
  ·rcases hmu i b e2 with ⟨h3,_⟩|⟨_,_,e3⟩
   ·exact absurd h3 h1
   ·exact h.fz i obj b e1 e3 hz
 ·intro i j b e e'
  rcases hmu i b e with ⟨h1,e1⟩|⟨h1,h2,e1⟩<;>rcases hmu j b e' with ⟨h3,e3⟩|⟨h3,h4,e3⟩
  ·rw[h1,h3]
  ·exact absurd (h.inj o j b e1 e3).symm h4
  ·exact absurd (h.inj i o b e1 e3) h2
  ·exact h.inj i j b e1 e3
 ·intro i b e
  rcases hmu i b e with ⟨rfl,e1⟩|⟨h1,h2,e1⟩
  ·obtain ⟨d1,d2,ob',d3,d4⟩:=h.dom o b e1
   rw[ho] at d3
   cases d3
   exact ⟨d1,by simp,ob,by simp only;rw[m7,if_pos rfl],d4⟩
  ·obtain ⟨d1,d2,ob',d3,d4⟩:=h.dom i b e1
   exact ⟨d1,by simp only;omega,ob',by simp only;rw[m7,if_neg h1,M2,if_neg h2];exact d3,d4⟩
 ·intro i obj e
  rcases hown i obj e with ⟨rfl,rfl⟩|⟨h1,h2,e1⟩
  ·exact ⟨by simp,(h.own o _ ho).2⟩
  ·exact ⟨by have:=(h.own i obj e1).1;simp only;omega,(h.own i obj e1).2⟩
 ·intro i b e hr
  rcases hmu i b e with ⟨rfl,e1⟩|⟨h1,h2,e1⟩
  ·exact h.pb o b e1 hro
  ·exact h.pb i b e1 hr
theorem XP {H:D6} {e:Nat} {v:V} {r:List D × List Nat} (h:K7 H e 0 v=some r):r.2= []:=by
 unfold K7 at h
 split at h
 ·split at h
  ·cases h;rfl
  ·cases h
 ·split at h
  ·cases h;rfl
  ·cases h
 ·split at h
  ·split at h
   ·cases h;rfl
   ·cases h
  ·split at h
   ·cases h;rfl
   ·cases h
  ·split at h
   ·simp only[Option.map_eq_some_iff] at h
    obtain ⟨ds,_,rfl⟩:=h
    simp[jF]
   ·cases h
  ·cases h
 ·split at h
  ·split at h
   ·cases h;rfl
   ·cases h
  ·cases h
 ·split at h
  ·cases h;rfl
  ·cases h
 ·split at h
  ·cases h;rfl
  ·cases h
 ·cases h
def DQ (E:D9) (s:St) (t:TypeId) (e b:Nat) (x y:Value):Option (Value × St):=
 match W6 E s t e b x y with
 |some (v,bs)=>some (v,s.push bs)
 |none=>fR E s t e b x y
theorem jA {E:D9} {t:TypeId} {e b:Nat} {x y:Value} (h:W6 E s t e b x y=none):DQ E s t e b x y=fR E s t e b x y:=by simp only[DQ,h]
theorem aM6 (h:SR C st s μ F) {t:TypeId} {e b:Nat} {x y:V} {xI yI:Value} (hx:d7 (s8 C st s μ F) x xI) (hy:d7 (s8 C st s μ F) y yI) (hs:rU st t e b x y=some (v,st')):
  OD C st s μ F (DQ C.E s t e b xI yI) v st':=by
 simp only[rU,Option.bind_eq_some_iff] at hs
 obtain ⟨m,hm,hs⟩:=hs
 obtain ⟨new,hnew,hs⟩:=hs
 split at hs
 case isFalse=>cases hs
 rename_i hok
 simp only[Bool.and_eq_true,Bool.not_eq_true',vE] at hok
 obtain ⟨⟨hok,he0⟩,hrow⟩:=hok
 have hlen:=nK hy hm
 have hml:∀ k,R6 y=some k→m≤k:=fun k hk=>by rw[hm] at hk;cases hk;exact Nat.le_refl _
 obtain ⟨cs,c1,c0,hone,c2⟩:=W5 h.hr hy hnew hml
 have hnl:=MG hnew hml
 have hnn:m ≠ 0→new.1 ≠ []:=fun hm0 e0=>by
  rw[e0] at hnl
  have:=Nat.mul_pos (Nat.pos_of_ne_zero hm0) (Nat.pos_of_ne_zero he0)
  simp at hnl;omega
 split at hs
 ·rename_i s' o n
  split at hs
  case h_2=>cases hs
  rename_i t' e' z l ho
  split at hs
  case isFalse=>cases hs
  rename_i hc
  simp only[Bool.and_eq_true,Bool.or_eq_true,Bool.not_eq_true',vE,Nat.ble_eq] at hc
  obtain ⟨⟨⟨⟨⟨⟨⟨⟨hro,hz⟩,hsn⟩,ht⟩,he⟩,hl⟩,hr1⟩,hr2⟩,hof⟩:=hc
  have ht:=j7.1 ht
  have he:=j7.1 he
  have hl:=j7.1 hl
  subst ht he hz
  have hsn:s'=2∨n ≠ 0:=hsn.imp j7.1 id
  cases hs
  have hokl:P1 (l++new.1)=true:=by
   have:=(h.own o _ ho).2
   simp only[Obj.ok] at this
   simp only[P1,List.all_append,Bool.and_eq_true];exact ⟨this,hok⟩
  by_cases hm0:m=0
  ·subst hm0
   have hn0:new.1= []:=List.eq_nil_of_length_eq_zero (by rw[hnl];simp)
   have hcs0:cs= []:=List.eq_nil_of_length_eq_zero (by rw[c0,hn0];rfl)
   have hf0:new.2= []:=XP hnew
   rw[hn0,List.append_nil,Nat.add_zero,hf0,s5]
   obtain ⟨q1,q2⟩:=h.rename ho hro
   have hx2:d7 (s8 C ⟨(st.next,.gro t' e' false l)::J4 o st.own,st.next+1,st.ro⟩ s (fun i=>if i=st.next then μ o else if i=o then none else μ i) F) (.gr 2 st.next n) xI:=by
    simp only[d7] at hx ⊢
    refine ⟨Nat.lt_succ_self _,?_⟩
    rcases hx with ⟨_,⟨hn,rfl|⟨hs2,_⟩⟩|⟨hn,b',rfl,q⟩⟩
    ·exact .inl ⟨hn,.inl rfl⟩
    ·exact absurd hs2 (by rcases hsn with h|h;exact fun h2=>h2 h;exact absurd hn h)
    ·exact .inr ⟨hn,b',rfl,fun b hb=>q b (by simpa using hb)⟩
   have hap:DQ C.E s t' e' b xI yI=some (xI,s):=by
    have hc:∃ a c,xI= .slice a n c∧n≤y8 c:=by
     simp only[d7] at hx
     rcases hx with ⟨_,⟨rfl,rfl|⟨_,a,c,rfl,_⟩⟩|⟨hn,b',rfl,_⟩⟩
     ·exact ⟨_,_,rfl,Nat.zero_le _⟩
     ·exact ⟨_,_,rfl,Nat.zero_le _⟩
     ·exact ⟨_,_,rfl,by rw[J0 (by omega)];omega⟩
    obtain ⟨a,c,rfl,hc⟩:=hc
    simp only[DQ,W6,hlen,Option.bind_some]
    rw[if_pos (show Nat.beq 0 0=true from rfl),if_pos (by rw[Nat.ble_eq];exact hc)]
    rfl
   rw[hap]
   exact ⟨xI,s,_,F,rfl,q1,hx2,q2,rfl,Nat.le_refl _,fun b hb=> .inl hb⟩
  have h0:¬ Nat.beq m 0=true:=by rw[j7];exact hm0
  simp only[d7] at hx
  rcases hx with ⟨_,⟨hn,hx⟩|⟨hn0,b',rfl,q⟩⟩
  ·have hxn:xI= .slice none 0 0:=by
    rcases hx with hx|⟨hs2,_⟩
    ·exact hx
    ·exact absurd hs2 (by rcases hsn with h|h;exact fun h2=>h2 h;exact absurd hn h)
   subst hxn hn
   have hl0:l= []:=List.eq_nil_of_length_eq_zero (by rw[hl];simp)
   subst hl0
   have d1:=h.drop0 ho rfl
   have hP:kI s.heap (s8 C ⟨J4 o st.own,st.next,st.ro⟩ s μ F) s.next (.gr 2 st.next m) (some (.gro t' e' false new.1)) new.2 (.slice (some ⟨s.next,0,some 0⟩) m (t8+m)) [⟨cs,e',true,t'⟩]:=
    ⟨O1 (hnn hm0),rfl,hok,_,rfl,fun w' k1 k2 k3 k4 k5=>⟨.gr_new k4 k5 m hm0,rfl,rfl,rfl,c2 w' k1 k2 k3⟩⟩
   obtain ⟨p1,p2,p3,p4⟩:=d1.push hP (pS hrow hof)
   have hap:DQ C.E s t' e' b (.slice none 0 0) yI=some (.slice (some ⟨s.next,0,some 0⟩) m (t8+m),s.push [⟨cs,e',true,t'⟩]):=by
    have:W6 C.E s t' e' b (.slice none 0 0) yI=some (.slice (some ⟨s.next,0,some 0⟩) m (t8+m),[⟨cs,e',true,t'⟩]):=by
     simp only[W6,hlen,Option.bind_some,Nat.zero_add]
     rw[Nat.zero_add] at hr1 hr2
     rw[if_neg h0,if_pos (by simp only[Bool.and_eq_true,Nat.ble_eq,Nat.blt_eq];exact ⟨⟨⟨hr1,hr2⟩,by unfold t8;omega⟩,by omega⟩),c1]
     simp only[Option.bind_some,r9]
     rfl
    simp only[DQ,this]
   rw[hap,List.nil_append,Nat.zero_add]
   exact ⟨_,_,_,_,rfl,p1,p2,p3,rfl,by simp[St.push],p4⟩
  have hln:l ≠ []:=fun e0=>by
   rw[e0] at hl
   have:=Nat.mul_pos (Nat.pos_of_ne_zero hn0) (Nat.pos_of_ne_zero he0)
   simp at hl;omega
  obtain ⟨b0,blk,m1,m2,m3⟩:=h.obj o _ ho (O1 hln)
  have:=q b0 m1
  subst this
  have hcl:=m3.2.2.2.length
  obtain ⟨g1,g2⟩:=h.grow (t:=t') (e:=e') (m:=n+m) (l:=l++new.1) (fz:=new.2) (cs:=blk.cells++cs) ho rfl hro m1 m2 (by simp[hln]) hokl (by omega) hrow hof (fun w' k1 k2 k3=>(m3.2.2.2.mono k1).append (c2 w' k1 k2 k3))
  have hnb:Nat.blt (t8+n) t8=false:=by rw[← Bool.not_eq_true,Nat.blt_eq];omega
  rw[jA (by
   simp only[W6,hlen,Option.bind_some]
   rw[if_neg h0,if_neg (by simp[hnb])])]
  ·have:fR C.E s t' e' b (.slice (some ⟨b',0,some 0⟩) n (t8+n)) yI=some (.slice (some ⟨s.next,0,some 0⟩) (n+m) (t8+(n+m)),St.push {s with heap:=G0 s.heap b'} [⟨blk.cells++cs,e',true,t'⟩]):=by
    simp only[fR,hlen,Option.bind_some]
    rw[if_neg h0,if_pos (by simp only[Bool.and_eq_true,Nat.ble_eq];exact ⟨hr1,hr2⟩),c1]
    simp only[Option.bind_some]
    rw[if_pos hone,if_neg (by rw[hnb];simp),if_pos (by rw[Nat.ble_eq];exact g2),m2]
    simp only[Option.bind_some]
    rw[if_pos (by simp only[Bool.and_eq_true];rw[m3.1,m3.2.1,m3.2.2.1,hcl,hl];refine ⟨⟨⟨⟨rfl,j7.2 rfl⟩,j7.2 rfl⟩,j7.2 (by omega)⟩,j7.2 rfl⟩)]
    rfl
   rw[this];exact g1
 ·rename_i o k n c
  split at hs
  case h_2=>cases hs
  rename_i t' e' g z l ho
  split at hs
  ·cases hs
  rename_i hcond
  simp only[Bool.or_eq_true,not_or,Bool.not_eq_true,yF] at hcond
  obtain ⟨⟨⟨⟨hro,hz⟩,h0'⟩,hr1⟩,hr2⟩:=hcond
  subst hz
  have hm0:m ≠ 0:=vE.1 h0'
  have h0:¬ Nat.beq m 0=true:=by rw[j7];exact hm0
  replace hnn:=hnn hm0
  simp only[d7] at hx
  obtain ⟨_,hcap,b',rfl,q⟩:=hx
  obtain ⟨b0,blk,m1,m2,m3⟩:=h.obj o _ ho rfl
  have:=q b0 m1
  subst this
  have hcl:=m3.2.2.2.length
  split at hs
  ·rename_i hcb
   split at hs
   case isFalse=>cases hs
   rename_i hle
   simp only[Bool.and_eq_true,Bool.not_eq_true'] at hle
   obtain ⟨hle,hof⟩:=hle
   simp only[Option.map_eq_some_iff] at hs
   obtain ⟨l',hl',hs⟩:=hs
   cases hs
   obtain ⟨rs,r1⟩:=dB hl' hcl c0
   have r2:∀ w',VW.le (s8 C st s μ F) w'→VI (s8 C st s μ F) w' new.2→VJ s.heap (s8 C st s μ F) w' new.2→l6 w' l' rs:=fun w' k1 k2 k3=>by
    obtain ⟨rs',q1,q2⟩:=M9 hl' (m3.2.2.2.mono k1) (c2 w' k1 k2 k3)
    rw[r1] at q1;cases q1;exact q2
   obtain ⟨g1,g2,g3⟩:=h.upd (fz:=new.2) (ob':= .row t' e' g false l') (blk':={blk with cells:=rs}) ho rfl hro m1 m2 hrow (fun hm=>by have:=(l8 _ _).2 hm;rw[hof] at this;cases this) rfl rfl (J1 hl' (h.own o _ ho).2 hok) (fun w' k1 k2 k3=>⟨m3.1,m3.2.1,m3.2.2.1,r2 w' k1 k2 k3⟩)
   rw[Nat.ble_eq] at hle
   rw[jA (by
    simp only[W6,hlen,Option.bind_some]
    rw[if_neg h0,if_neg (by
     have:Nat.blt c (n+m)=false:=by rw[← Bool.not_eq_true,Nat.blt_eq];omega
     simp[this])])]
   ·have:fR C.E s t e b (.slice (some ⟨b',k,some 0⟩) n c) yI=some (.slice (some ⟨b',k,some 0⟩) (n+m) c,{s with heap:=A1 s.heap b' {blk with cells:=rs}}):=by
     simp only[fR,hlen,Option.bind_some]
     rw[if_neg h0,if_pos (by simp only[Bool.and_eq_true,Nat.ble_eq];exact ⟨hr1,hr2⟩),c1]
     simp only[Option.bind_some]
     rw[if_pos hone,if_pos hcb,if_pos (by rw[Nat.ble_eq];exact hle)]
     have hast:=K0 (s:=s) m2 g3 hone r1
     simp only[A7]
     rw[hast]
     rfl
    rw[this]
    refine ⟨_,_,μ,_,rfl,g1,?_,g2,rfl,Nat.le_refl _,fun c hc=>h.fin_ge hrow hc⟩
    simp only[d7]
    rw[Nat.blt_eq] at hcb
    exact ⟨‹_›,by unfold F8;rw[E0 hcb];exact hle,b',rfl,q⟩
  ·rename_i hcb
   split at hs
   case isFalse=>
    split at hs
    case isFalse=>cases hs
    rename_i hle
    simp only[Bool.and_eq_true,Bool.not_eq_true'] at hle
    obtain ⟨⟨hle,hof⟩,hng⟩:=hle
    simp only[Option.map_eq_some_iff] at hs
    obtain ⟨l',hl',hs⟩:=hs
    cases hs
    obtain ⟨rs,r1⟩:=dB hl' hcl c0
    have r2:∀ w',VW.le (s8 C st s μ F) w'→VI (s8 C st s μ F) w' new.2→VJ s.heap (s8 C st s μ F) w' new.2→l6 w' l' rs:=fun w' k1 k2 k3=>by
     obtain ⟨rs',q1,q2⟩:=M9 hl' (m3.2.2.2.mono k1) (c2 w' k1 k2 k3)
     rw[r1] at q1;cases q1;exact q2
    obtain ⟨g1,g2,g3⟩:=h.upd (fz:=new.2) (ob':= .row t' e' g false l') (blk':={blk with cells:=rs}) ho rfl hro m1 m2 hrow (fun hm=>by have:=(l8 _ _).2 hm;rw[hof] at this;cases this) rfl rfl (J1 hl' (h.own o _ ho).2 hok) (fun w' k1 k2 k3=>⟨m3.1,m3.2.1,m3.2.2.1,r2 w' k1 k2 k3⟩)
    rw[Nat.ble_eq] at hle
    have hcb':Nat.blt c t8=false:=by simp only[Bool.not_eq_true] at hcb;exact hcb
    rw[jA (by
     simp only[W6,hlen,Option.bind_some]
     rw[if_neg h0,if_neg (by simp[hcb'])])]
    ·have:fR C.E s t e b (.slice (some ⟨b',k,some 0⟩) n c) yI=some (.slice (some ⟨b',k,some 0⟩) (n+m) c,{s with heap:=A1 s.heap b' {blk with cells:=rs}}):=by
      simp only[fR,hlen,Option.bind_some]
      rw[if_neg h0,if_pos (by simp only[Bool.and_eq_true,Nat.ble_eq];exact ⟨hr1,hr2⟩),c1]
      simp only[Option.bind_some]
      rw[if_pos hone,if_neg hcb,if_pos (by rw[Nat.ble_eq];exact g3),m2]
      simp only[Option.bind_some]
      rw[if_neg (by
       rw[m3.1,m3.2.1,m3.2.2.1,hcl,hng]
       exact Bool.false_ne_true),if_pos (by rw[Nat.ble_eq];exact hle)]
      have hast:=K0 (s:=s) m2 g3 hone r1
      simp only[A7]
      rw[hast]
      rfl
     rw[this]
     refine ⟨_,_,μ,_,rfl,g1,?_,g2,rfl,Nat.le_refl _,fun c hc=>h.fin_ge hrow hc⟩
     simp only[d7]
     rw[Nat.blt_eq] at hcb
     exact ⟨‹_›,by unfold F8;rw[J0 (by omega)];exact hle,b',rfl,q⟩
   rename_i hc
   simp only[Bool.and_eq_true,Bool.not_eq_true'] at hc
   obtain ⟨⟨⟨⟨⟨hg,ht⟩,he⟩,hk⟩,hc⟩,hof⟩:=hc
   have ht:=j7.1 ht
   have he:=j7.1 he
   have hk:=j7.1 hk
   have hc:=j7.1 hc
   subst ht he hg hc
   cases hs
   obtain ⟨g1,g2⟩:=h.grow (t:=t') (e:=e') (m:=n+m) (l:=l.drop k++new.1) (fz:=new.2) (cs:=blk.cells.drop k++cs) ho rfl hro m1 m2 (by simp[hnn]) (by
    have:=(h.own o _ ho).2
    simp only[Obj.ok,P1,List.all_eq_true] at this
    simp only[P1,List.all_append,Bool.and_eq_true,List.all_eq_true]
    exact ⟨fun d hd=>this d (List.mem_of_mem_drop hd),by simpa only[P1,List.all_eq_true] using hok⟩) (by omega) hrow hof (fun w' k1 k2 k3=>((m3.2.2.2.drop k).mono k1).append (c2 w' k1 k2 k3))
   rw[jA (by
    simp only[W6,hlen,Option.bind_some]
    rw[if_neg h0,if_neg (by simp only[Bool.not_eq_true] at hcb;simp[hcb])])]
   ·have:fR C.E s t' e' b (.slice (some ⟨b',k,some 0⟩) n (t8+n)) yI=some (.slice (some ⟨s.next,0,some 0⟩) (n+m) (t8+(n+m)),St.push {s with heap:=G0 s.heap b'} [⟨blk.cells.drop k++cs,e',true,t'⟩]):=by
     simp only[fR,hlen,Option.bind_some]
     rw[if_neg h0,if_pos (by simp only[Bool.and_eq_true,Nat.ble_eq];exact ⟨hr1,hr2⟩),c1]
     simp only[Option.bind_some]
     rw[if_pos hone,if_neg hcb,if_pos (by rw[Nat.ble_eq];exact g2),m2]
     simp only[Option.bind_some]
     rw[if_pos (by simp only[Bool.and_eq_true];rw[m3.1,m3.2.1,m3.2.2.1,hcl];exact ⟨⟨⟨⟨rfl,j7.2 rfl⟩,j7.2 rfl⟩,j7.2 hk⟩,j7.2 rfl⟩)]
    rw[this];exact g1
 ·cases hs
theorem aM8 (h:SR C st s μ F) {e:Nat} {d x:V} {dI xI:Value} (hd:d7 (s8 C st s μ F) d dI) (hx:d7 (s8 C st s μ F) x xI) (hs:UT st e d x=some (v,st')):
  OD C st s μ F (RM C.E s e dI xI) v st':=by
 simp only[UT,Option.bind_eq_some_iff] at hs
 obtain ⟨n,hn,m,hm,cs,hcs,hs⟩:=hs
 split at hs
 case isFalse=>cases hs
 rename_i hok
 have hml:∀ k,R6 x=some k→Nat.min m n≤k:=fun k hk=>by rw[hm] at hk;cases hk;exact Nat.min_le_left _ _
 simp only[Bool.and_eq_true,List.isEmpty_iff] at hok
 obtain ⟨us,u1,u2⟩:=(W5 h.hr hx hcs hml).plain h.hr hok.2
 replace hok:=hok.1
 have hlx:=nK hx hm
 have hone:=u2.one
 have hint:∀ w:VW,d7 w (.sc (.int .i64 ↑(Nat.min m n))) (.int .i64 ↑(Nat.min m n)):=fun w=> .mksc rfl
 split at hs
 ·rename_i o k n' c
  simp only[U6,Option.some.injEq] at hn
  subst hn
  split at hs
  case h_2=>cases hs
  rename_i t e' g z l ho
  split at hs
  ·cases hs
  rename_i hcond
  simp only[Bool.or_eq_true,not_or,Bool.not_eq_true,yF] at hcond
  obtain ⟨hro,hz⟩:=hcond
  subst hz
  simp only[Option.map_eq_some_iff] at hs
  obtain ⟨l',hl',hs⟩:=hs
  cases hs
  simp only[d7] at hd
  obtain ⟨_,hcap,b',rfl,q⟩:=hd
  obtain ⟨b0,blk,m1,m2,m3⟩:=h.obj o _ ho rfl
  have:=q b0 m1
  subst this
  obtain ⟨rs,r1,r2⟩:=M9 hl' m3.2.2.2 u2
  obtain ⟨g1,g2,g3⟩:=h.upd (fz:= []) (ob':= .row t e' g false l') (blk':={blk with cells:=rs}) ho rfl hro m1 m2 rfl (by simp) rfl rfl (J1 hl' (h.own o _ ho).2 hok) (fun w' k1 k2 k3=>⟨m3.1,m3.2.1,m3.2.2.1,r2.mono k1⟩)
  rw[s5] at g1 g2
  refine ⟨_,_,μ,_,?_,g1,hint _,g2,rfl,Nat.le_refl _,fun c hc=>h.fin_ge (fz:= []) rfl hc⟩
  simp only[RM,hlx,u1,Option.bind_some]
  rw[K0 m2 g3 hone r1]
  rfl
 ·rename_i s' o n'
  simp only[U6,Option.some.injEq] at hn
  subst hn
  split at hs
  case h_2=>cases hs
  rename_i t e' z l ho
  split at hs
  ·cases hs
  rename_i hcond
  simp only[Bool.or_eq_true,not_or,Bool.not_eq_true,vE,Bool.not_eq_false'] at hcond
  obtain ⟨⟨⟨⟨hro,hz⟩,hn0⟩,he0⟩,hll⟩:=hcond
  have hll:=j7.1 hll
  rw[Nat.ble_eq] at hro
  subst hz
  simp only[Option.map_eq_some_iff] at hs
  obtain ⟨l',hl',hs⟩:=hs
  cases hs
  simp only[d7] at hd
  rcases hd with ⟨_,⟨h00,_⟩|⟨_,b',rfl,q⟩⟩
  ·exact absurd h00 hn0
  have hl0:l ≠ []:=fun e0=>by
   rw[e0] at hll
   have:=Nat.mul_pos (Nat.pos_of_ne_zero hn0) (Nat.pos_of_ne_zero he0)
   simp at hll;omega
  obtain ⟨b0,blk,m1,m2,m3⟩:=h.obj o _ ho (O1 hl0)
  have:=q b0 m1
  subst this
  obtain ⟨rs,r1,r2⟩:=M9 hl' m3.2.2.2 u2
  have hl'0:l' ≠ []:=fun e0=>by have:=hZ hl';rw[e0] at this;exact hl0 (List.eq_nil_of_length_eq_zero this.symm)
  obtain ⟨g1,g2,g3⟩:=h.upd (fz:= []) (ob':= .gro t e' false l') (blk':={blk with cells:=rs}) ho rfl hro m1 m2 rfl (by simp) (O1 hl'0) rfl (J1 hl' (h.own o _ ho).2 hok) (fun w' k1 k2 k3=>⟨m3.1,m3.2.1,m3.2.2.1,r2.mono k1⟩)
  rw[s5] at g1 g2
  refine ⟨_,_,μ,_,?_,g1,hint _,g2,rfl,Nat.le_refl _,fun c hc=>h.fin_ge (fz:= []) rfl hc⟩
  simp only[RM,hlx,u1,Option.bind_some]
  rw[K0 m2 g3 hone r1]
  rfl
 ·cases hs
  have hk:=hd.ok
  have:=hd.scv
  subst this
  simp only[D5,Bool.and_eq_true,j7] at hk
  obtain ⟨rfl,rfl⟩:=hk
  simp only[U6,Option.some.injEq] at hn
  subst hn
  refine ⟨_,s,μ,F,?_,h,hint _,VW.le.refl _,rfl,Nat.le_refl _,fun b hb=> .inl hb⟩
  simp only[RM,hlx,u1,Option.bind_some]
 ·cases hs
theorem SR.give (h:SR C st s μ F) {o b:Nat} {ob:Obj} (ho:i7 st.own o=some ob) (hz:ob.fz=false) (hro:st.ro≤o) (hμ:μ o=some b) (x:Value) (hx:D5 x=true):
  OD C st s μ F (some (x,{s with heap:=G0 s.heap b})) (.sc x) ⟨J4 o st.own,st.next,st.ro⟩∧s.prot≤b:=by
 obtain ⟨d1,d2,d3⟩:=h.del ho hz hro hμ
 exact ⟨⟨x,_,_,F,rfl,d1,.mksc hx,d2,rfl,Nat.le_refl _,fun b hb=> .inl hb⟩,d3⟩
theorem aO3 (h:SR C st s μ F) {t:TypeId} {p n:V} {pI nI:Value} (hp:d7 (s8 C st s μ F) p pI) (hn:d7 (s8 C st s μ F) n nI) (hs:VD st t p n=some (v,st')):
  OD C st s μ F (xL s t pI nI) v st':=by
 unfold VD at hs
 split at hs
 ·rename_i k
  split at hs
  case isFalse=>cases hs
  rename_i hk
  cases hs
  have:=hp.scv
  subst this
  have:=hn.scv
  subst this
  exact ⟨_,s,μ,F,by simp[xL,hk],h,.mksc rfl,VW.le.refl _,rfl,Nat.le_refl _,fun b hb=> .inl hb⟩
 ·rename_i o k m
  split at hs
  case isFalse=>cases hs
  rename_i hc
  obtain ⟨hm0,hm1,hro⟩:=hc
  rw[Nat.ble_eq] at hro
  have:=hn.scv
  subst this
  simp only[d7] at hp
  obtain ⟨_,b',rfl,q⟩:=hp
  have hne:¬ m=0:=by omega
  have fin:∀ {ob:Obj} {l:List D} {b:Nat} {blk:w7} {bs:List UInt8} {cs:List D},i7 st.own o=some ob→ob.fz=false→μ o=some b→g9 s.heap b=some blk→blk.ty=t→l6 (s8 C st s μ F) l blk.cells→D2 (l.drop k) m.toNat=some cs→C0 cs=some bs→
    v= .sc (.string ⟨bs.toArray⟩)→st'=⟨J4 o st.own,st.next,st.ro⟩→OD C st s μ F (xL s t (.pointer (some ⟨b',k,some 0⟩)) (.int .i64 m)) v st':=by
   intro ob l b blk bs cs e1 e2 e3 e4 e5 e6 e7 e8 e9 e10
   have:=q b e3
   subst this e9 e10
   obtain ⟨g1,g2⟩:=h.give e1 e2 hro e3 (.string ⟨bs.toArray⟩) rfl
   obtain ⟨rfl,hlen⟩:=E5 _ _ e7
   rw[List.length_drop] at hlen
   have hcl:=e6.length
   have hb:=oV e8 (e6.part k m.toNat)
   have:xL s t (.pointer (some ⟨b',k,some 0⟩)) (.int .i64 m)=some (.string ⟨bs.toArray⟩,{s with heap:=G0 s.heap b'}):=by
    simp only[xL]
    rw[if_neg hne,if_pos ⟨hm0,hm1⟩,if_pos (by rw[Nat.ble_eq];exact g2),e4]
    simp only[Option.bind_some]
    rw[if_pos (by rw[e5];exact j7.2 rfl),X1 _ _ (by rw[List.length_drop];omega)]
    simp only[Option.bind_some,hb,Option.map_some]
   rw[this];exact g1
  split at hs
  ·rename_i t' e' z l ho
   split at hs
   case isFalse=>cases hs
   rename_i hc
   simp only[Bool.and_eq_true,Bool.not_eq_true'] at hc
   have ht:=j7.1 hc.1
   have hz:=hc.2
   subst ht hz
   simp only[Option.bind_eq_some_iff,Option.map_eq_some_iff] at hs
   obtain ⟨cs,h1,bs,h2,hs⟩:=hs
   cases hs
   have hl0:l ≠ []:=fun e0=>by
    obtain ⟨_,hlen⟩:=E5 _ _ h1
    rw[e0] at hlen;simp at hlen;omega
   obtain ⟨b0,blk,m1,m2,m3⟩:=h.obj o _ ho (O1 hl0)
   exact fin ho rfl m1 m2 m3.2.2.1 m3.2.2.2 h1 h2 rfl rfl
  ·rename_i t' e' g z l ho
   split at hs
   case isFalse=>cases hs
   rename_i hc
   simp only[Bool.and_eq_true,Bool.not_eq_true'] at hc
   have ht:=j7.1 hc.1
   have hz:=hc.2
   subst ht hz
   simp only[Option.bind_eq_some_iff,Option.map_eq_some_iff] at hs
   obtain ⟨cs,h1,bs,h2,hs⟩:=hs
   cases hs
   obtain ⟨b0,blk,m1,m2,m3⟩:=h.obj o _ ho rfl
   exact fin ho rfl m1 m2 m3.2.2.1 m3.2.2.2 h1 h2 rfl rfl
  ·cases hs
 ·cases hs
theorem zY {w:VW}:∀ {l:List D} {zs:List Int} {rs:List Value},JX l=some zs→l6 w l rs→qZ rs=some zs
 | [],zs,rs,h,hr=>by
  simp only[l6] at hr
  subst hr
  simpa [JX,qZ] using h
 |d::l,zs,rs,h,hr=>by
  unfold JX at h
  split at h
  ·rename_i heq;cases heq
  ·rename_i heq
   simp only[List.cons.injEq] at heq
   obtain ⟨rfl,rfl⟩:=heq
   simp only[Option.map_eq_some_iff] at h
   obtain ⟨zs',h1,rfl⟩:=h
   simp only[l6,A5] at hr
   obtain ⟨c,rs',rfl,⟨rfl,_⟩,h2⟩:=hr
   simp only[qZ,zY h1 h2,Option.map_some]
  ·cases h
theorem AS {w:VW}:∀ (zs:List Int),l6 w (zs.map fun x=>D.sc (.int .i64 x)) (zs.map (Value.int .i64))
 | []=>by simp only[List.map_nil,l6]
 |z::r=>by
  simp only[List.map_cons,l6,A5]
  exact ⟨_,_,rfl,⟨rfl,rfl⟩,AS r⟩
theorem uY {α:Type}:∀ (l:List α),D2 l l.length=some l
 | []=>rfl
 |x::l=>by simp only[List.length_cons,D2,uY l,Option.map_some]
theorem aW6 (h:SR C st s μ F) {k0:Nat} {x:V} {xI:Value} (hx:d7 (s8 C st s μ F) x xI) (hs:bJ0 st k0 x=some (v,st')):OD C st s μ F (FB k0 s xI) v st':=by
 unfold bJ0 at hs
 split at hs
 ·rename_i s' o n'
  have hx0:=hx
  simp only[d7] at hx
  split at hs
  ·rename_i h0
   have h0:=j7.1 h0
   subst h0
   cases hs
   have:∃ a c,xI= .slice a 0 c:=by
    rcases hx.2 with ⟨_,rfl|⟨_,a,c,rfl,_⟩⟩|⟨h,_⟩
    ·exact ⟨_,_,rfl⟩
    ·exact ⟨_,_,rfl⟩
    ·exact absurd rfl h
   obtain ⟨a,c,rfl⟩:=this
   refine ⟨uT k0 a [] c,s,μ,F,rfl,h,?_,VW.le.refl _,rfl,Nat.le_refl _,fun b hb=> .inl hb⟩
   cases k0 with
   |zero=>show d7 _ (.tup []) (.tuple #[]);simp only[d7,f9];exact ⟨[],rfl,rfl⟩
   |succ k0=>exact hx0
  rename_i hn0
  have hn0:n' ≠ 0:=fun e=>hn0 (j7.2 e)
  split at hs
  case h_2=>cases hs
  rename_i t e z l ho
  split at hs
  case isFalse=>cases hs
  rename_i hc
  simp only[Bool.and_eq_true,Bool.not_eq_true'] at hc
  obtain ⟨⟨⟨hro,hz⟩,hll⟩,hrm⟩:=hc
  have hll:=j7.1 hll
  rw[Nat.ble_eq] at hro
  subst hz
  simp only[Option.map_eq_some_iff] at hs
  obtain ⟨zs,hzs,hs⟩:=hs
  cases hs
  rcases hx with ⟨_,⟨h00,_⟩|⟨_,b',rfl,q⟩⟩
  ·exact absurd h00 hn0
  have hl0:l ≠ []:=fun e0=>by rw[e0] at hll;simp at hll;omega
  obtain ⟨b0,blk,m1,m2,m3⟩:=h.obj o _ ho (O1 hl0)
  have:=q b0 m1
  subst this
  have hi:=zY hzs m3.2.2.2
  have hcl:=m3.2.2.2.length
  have hzl:zs.length=l.length:=by
   have:=congrArg List.length (lN hi)
   simp only[List.length_map] at this
   omega
  have hsl:=KD k0 zs
  have hl'0:((gY k0 zs).map fun x=>D.sc (.int .i64 x)) ≠ []:=fun e0=>by
   have:=congrArg List.length e0
   simp only[List.length_map,List.length_nil] at this
   omega
  obtain ⟨g1,g2,g3⟩:=h.upd (fz:= []) (ob':= .gro t e false ((gY k0 zs).map fun x=>D.sc (.int .i64 x))) (blk':={blk with cells:=(gY k0 zs).map (Value.int .i64)}) ho rfl hro m1 m2 rfl (by simp) (O1 hl'0) rfl (by
   simp only[Obj.ok,P1,List.all_eq_true]
   intro d hd
   obtain ⟨x,_,rfl⟩:=List.mem_map.1 hd
   rfl) (fun w' k1 k2 k3=>⟨m3.1,m3.2.1,m3.2.2.1,AS _⟩)
  rw[s5] at g1 g2
  refine ⟨uT k0 (some ⟨b',0,some 0⟩) zs (t8+n'),_,μ,_,?_,g1,?_,g2,rfl,Nat.le_refl _,fun c hc=>h.fin_ge (fz:= []) rfl hc⟩
  rotate_left
  ·cases k0 with
   |zero=>show d7 _ (.tup []) (.tuple #[]);simp only[d7,f9];exact ⟨[],rfl,rfl⟩
   |succ k0=>
    have hcl:=RN zs
    simp only[bC8,uT,d7]
    refine ⟨h.own o _ ho|>.1,?_,b',rfl,fun b hb=>q b hb⟩
    unfold F8
    rw[F5,if_neg (by omega)]
    omega
  simp only[FB,m2,Option.bind_some]
  rw[if_neg (fun e=>hn0 (j7.1 e)),List.drop_zero]
  have e1:D2 blk.cells n'=some blk.cells:=by
   have:=uY blk.cells
   rwa [show blk.cells.length=n' by omega] at this
  rw[e1]
  simp only[Option.bind_some,hi]
  rw[if_pos (by rw[Bool.and_eq_true];exact ⟨hrm,by rw[Nat.ble_eq];exact Nat.le_refl _⟩)]
  have hone:((gY k0 zs).map (Value.int .i64)).all B2=true:=by
   rw[List.all_eq_true]
   intro d hd
   obtain ⟨x,_,rfl⟩:=List.mem_map.1 hd
   rfl
  have hput:O9 blk.cells 0 ((gY k0 zs).map (Value.int .i64))=some ((gY k0 zs).map (Value.int .i64)):=by
   have:∀ (cs ls:List Value),ls.length=cs.length→O9 ls 0 cs=some cs:=fun cs=>by
    induction cs with
    |nil=>intro ls hl;have:=List.eq_nil_of_length_eq_zero hl;subst this;rfl
    |cons c cs ih=>
     intro ls hl
     cases ls with
     |nil=>simp at hl
     |cons x ls=>simp only[O9,ih ls (by simpa using hl),Option.map_some]
   exact this _ _ (by simp only[List.length_map];omega)
  rw[K0 m2 g3 hone hput]
  rfl
 ·split at hs
  case isFalse=>cases hs
  rename_i h0
  have h0:=j7.1 h0
  subst h0
  cases hs
  have:=hx.scv
  subst this
  refine ⟨uT k0 none [] _,s,μ,F,rfl,h,?_,VW.le.refl _,rfl,Nat.le_refl _,fun b hb=> .inl hb⟩
  cases k0 with
  |zero=>show d7 _ (.tup []) (.tuple #[]);simp only[d7,f9];exact ⟨[],rfl,rfl⟩
  |succ k0=>exact hx
 ·cases hs
theorem aN0 (h:SR C st s μ F) {x:V} {xI:Value} (hx:d7 (s8 C st s μ F) x xI) (hs:aM9 st x=some (v,st')):OD C st s μ F (KJ s xI) v st':=by
 unfold aM9 at hs
 split at hs
 case h_2=>cases hs
 rename_i o k
 split at hs
 case isFalse=>cases hs
 rename_i hk
 have hk:=j7.1 hk
 subst hk
 split at hs
 case h_2=>cases hs
 rename_i t e g z l ho
 split at hs
 case isFalse=>cases hs
 rename_i hc
 simp only[Bool.and_eq_true,Bool.not_eq_true'] at hc
 obtain ⟨⟨⟨hro,hz⟩,he⟩,hg⟩:=hc
 have he:=j7.1 he
 rw[Nat.ble_eq] at hro
 subst hz he hg
 split at hs
 case isFalse=>cases hs
 rename_i hsz
 simp only[d7] at hx
 obtain ⟨_,b',rfl,q⟩:=hx
 obtain ⟨b0,blk,m1,m2,m3⟩:=h.obj o _ ho rfl
 have:=q b0 m1
 subst this
 obtain ⟨f1,f2,f3,_⟩:=m3
 split at hs
 ·rename_i hlt
  cases hs
  obtain ⟨g1,g2,g3⟩:=h.upd (fz:= []) (ob':= .row (pM (L8 t).1 ((L8 t).2+(Utf8.decode (L8 t).1 (L8 t).2).2)) 0 false false []) (blk':=kQ (L8 t).1 ((L8 t).2+(Utf8.decode (L8 t).1 (L8 t).2).2)) ho rfl hro m1 m2 rfl (by simp) rfl rfl rfl (fun w' k1 k2 k3=>⟨rfl,rfl,rfl,by simp only[l6,kQ]⟩)
  rw[s5] at g1 g2
  refine ⟨.tuple #[.bool true,.int .i64 (L8 t).2,.int .i32 (Utf8.decode (L8 t).1 (L8 t).2).1],_,μ,_,?_,g1,?_,g2,rfl,Nat.le_refl _,fun c hc=>h.fin_ge (fz:= []) rfl hc⟩
  ·simp only[KJ]
   rw[if_pos (by rw[Nat.ble_eq];exact g3),m2]
   simp only[Option.bind_some,f1,f2,f3]
   rw[if_pos (by rfl),if_pos hsz,if_pos hlt]
  ·simp only[d7,f9]
   exact ⟨_,rfl,_,_,rfl,⟨rfl,rfl⟩,_,_,rfl,⟨rfl,rfl⟩,_,_,rfl,⟨rfl,rfl⟩,rfl⟩
 ·rename_i hlt
  cases hs
  obtain ⟨_,_,g3⟩:=h.upd (fz:= []) (ob':= .row t 0 false false []) (blk':={blk with cells:= []}) ho rfl hro m1 m2 rfl (by simp) rfl rfl rfl (fun w' k1 k2 k3=>⟨f1,f2,f3,by simp only[l6]⟩)
  refine ⟨.tuple #[.bool false],s,μ,F,?_,h,?_,VW.le.refl _,rfl,Nat.le_refl _,fun b hb=> .inl hb⟩
  ·simp only[KJ]
   rw[if_pos (by rw[Nat.ble_eq];exact g3),m2]
   simp only[Option.bind_some,f1,f2,f3]
   rw[if_pos (by rfl),if_pos hsz,if_neg hlt]
  ·simp only[d7,f9]
   exact ⟨_,rfl,_,_,rfl,⟨rfl,rfl⟩,rfl⟩
theorem YG (h:SR C st s μ F) (hf:FR (s8 C st s μ F) fr frI) {op:K8} (hs:P8 fr st op=some (v,st')):OD C st s μ F (step C.E frI s op) v st':=by
 cases op with
 |store n a u=>
  simp only[P8,Option.bind_eq_some_iff,Option.map_eq_some_iff] at hs
  obtain ⟨av,h1,uv,h2,st1,h3,hs⟩:=hs
  cases hs
  obtain ⟨aI,a1,a2⟩:=m6 hf h1
  obtain ⟨uI,b1,b2⟩:=m6 hf h2
  have:=YE h a2 b2 h3
  rw[wW (r:=_) rfl rfl]
  simp only[o9,a1,b1,Option.bind_some]
  exact this
 |app t e b x y=>
  simp only[P8,Option.bind_eq_some_iff] at hs
  obtain ⟨av,h1,uv,h2,hs⟩:=hs
  obtain ⟨aI,a1,a2⟩:=m6 hf h1
  obtain ⟨uI,b1,b2⟩:=m6 hf h2
  have k:=aM6 h a2 b2 hs
  have:step C.E frI s (.app t e b x y)=DQ C.E s t e b aI uI:=by
   simp only[step,d6,o9,a1,b1,Option.bind_some,DQ]
   cases W6 C.E s t e b aI uI<;>rfl
  rw[this]
  exact k
 |copy e d x=>
  simp only[P8,Option.bind_eq_some_iff] at hs
  obtain ⟨av,h1,uv,h2,hs⟩:=hs
  obtain ⟨aI,a1,a2⟩:=m6 hf h1
  obtain ⟨uI,b1,b2⟩:=m6 hf h2
  have:=aM8 h a2 b2 hs
  rw[wW (r:=_) rfl rfl]
  simp only[o9,a1,b1,Option.bind_some]
  exact this
 |ustr t p n=>
  simp only[P8,Option.bind_eq_some_iff] at hs
  obtain ⟨av,h1,uv,h2,hs⟩:=hs
  obtain ⟨aI,a1,a2⟩:=m6 hf h1
  obtain ⟨uI,b1,b2⟩:=m6 hf h2
  have:=aO3 h a2 b2 hs
  rw[wW (r:=_) rfl rfl]
  simp only[o9,a1,b1,Option.bind_some]
  exact this
 |lib k x=>
  simp only[P8,Option.bind_eq_some_iff] at hs
  obtain ⟨av,h1,hs⟩:=hs
  obtain ⟨aI,a1,a2⟩:=m6 hf h1
  have:=aW6 h a2 hs
  rw[wW (r:=_) rfl rfl]
  simp only[o9,a1,Option.bind_some]
  exact this
 |nextS x=>
  simp only[P8,Option.bind_eq_some_iff] at hs
  obtain ⟨av,h1,hs⟩:=hs
  obtain ⟨aI,a1,a2⟩:=m6 hf h1
  have:=aN0 h a2 hs
  rw[wW (r:=_) rfl rfl]
  simp only[o9,a1,Option.bind_some]
  exact this
 |_=>simp[P8] at hs
theorem aO2 (h:SR C st s μ F) (hf:FR (s8 C st s μ F) fr frI) {op:K8} (hs:NQ C.E.old fr st op=some (v,st')):OD C st s μ F (step C.E frI s op) v st':=by
 unfold NQ at hs
 split at hs
 ·rename_i v' ob fz hv
  split at hs
  case isFalse=>cases hs
  rename_i hrow
  cases hs
  obtain ⟨vI,bs,p1,p2⟩:=qE (n:=s.next) (p:=s.prot) h.hr hf hv
  obtain ⟨q1,q2,q3,q4⟩:=h.push p2 hrow
  refine ⟨vI,s.push bs,_,_,?_,q1,q2,q3,rfl,by simp[St.push],q4⟩
  have:step C.E frI s op=some (vI,s.push bs):=by simp only[step];rw[show d6 C.E frI s op=some (vI,bs) from p1]
  exact this
 ·exact YG h hf hs
end
def Rl (C:C6) (st:n4) (fr:D0) (s:St) (frI:Fr):Prop:=
 ∃ μ F,SR C st s μ F∧FR (s8 C st s μ F) fr frI∧VW.le C.w0 (s8 C st s μ F)∧s.prot=C.p0∧∀ b,F b→C.w0.F b∨C.p0≤b
abbrev A3:=Ex→D0→n4→Prop
def DV (C:C6) (run:Fr→St→VK) (fr:D0) (st:n4) (P:A3):Prop:=
 ∀ frI s,Rl C st fr s frI→∃ ex frI' s',run frI s=some (ex,frI',s')∧∃ fr' st',Rl C st' fr' s' frI'∧P ex fr' st'
def callI (E:D9) (f:FuncId) (xs:List Value) (s:St):Option (Value × St):=
 match E.pcall f xs s with
 |some (v,bs)=>some (v,s.push bs)
 |none=>E.wcall f xs s
def eZ (C:C6) (f:FuncId) (xs:List V) (st:n4) (Q:V→n4→Prop):Prop:=
 ∃ v st',Q v st'∧∀ s μ F xsI,SR C st s μ F→f9 (s8 C st s μ F) xs xsI→s.prot=C.p0→OD C st s μ F (callI C.E f xsI s) v st'
def U2:V→List V→Option (FuncId × List V)
 | .sc (.func (.func f) _ _),xs=>some (f,xs)
 | .fn f a b,xs=>some (f,a++xs++b)
 |_,_=>none
def eE (ms:List (TypeId × FuncId)):V→List V→Option (FuncId × List V)
 | .ifc t u,xs=>(P6 ms t).map fun f=>(f,u::xs)
 | .sc (.iface t u),xs=>(P6 ms t).map fun f=>(f,.sc u::xs)
 |_,_=>none
def QR (C:C6) (o:Nat) (xs:List V) (st:n4) (Q:V→n4→Prop):Prop:=
 ∀ s μ F xsI d,SR C st s μ F→f9 (s8 C st s μ F) xs xsI→VW.le C.w0 (s8 C st s μ F)→s.prot=C.p0→(∀ b,F b→C.w0.F b∨C.p0≤b)→d7 (s8 C st s μ F) (.tok o) (.chan (some d))→∃ v st',Q v st'∧OD C st s μ F (C.E.yld d xsI s) v st'
def DZ (C:C6) (g:V) (vs:List V) (st:n4) (Q:V→n4→Prop):Prop:=
 match g with
 | .tok o=>QR C o vs st Q
 |_=>False
def mC (C:C6) (fr:D0) (st:n4) (op:K8) (Q:V→n4→Prop):Prop:=
 match op with
 | .callF f xs=>match T7 fr xs with|some vs=>eZ C f vs st Q|none=>False
 | .callV x xs=>match p7 fr x,T7 fr xs with
   |some g,some vs=>(match U2 g vs with|some (f,ws)=>eZ C f ws st Q|none=>DZ C g vs st Q)
   |_,_=>False
 | .callI ms x xs=>match p7 fr x,T7 fr xs with
   |some g,some vs=>(match eE ms g vs with|some (f,ws)=>eZ C f ws st Q|none=>False)
   |_,_=>False
 |op=>match NQ C.E.old fr st op with|some (v,st')=>Q v st'|none=>False
def YM (C:C6):List j9→D0→n4→(D0→n4→Prop)→Prop
 | [],fr,st,Q=>Q fr st
 |o::l,fr,st,Q=>match o.guard with
   |none=>mC C fr st o.op fun v st'=>YM C l (v9 fr o.dst v) st' Q
   |some (t,want)=>match i7 fr t with
     |some (.sc (.bool b))=>if b==want then mC C fr st o.op fun v st'=>YM C l (v9 fr o.dst v) st' Q else YM C l (v9 fr o.dst (.tup [])) st Q
     |some (.tup _)=>YM C l (v9 fr o.dst (.tup [])) st Q
     |_=>False
def QW:Nat→Nat→D6→D6
 |_,0,H=>H
 |o,c+1,H=>J4 o (QW (o+1) c H)
def N4:D6→List (Nat × Nat)→List Bool→D6
 |H,[],_=>H
 |H,_::r,true::ms=>N4 H r ms
 |H,(o,c)::r,false::ms=>QW o c (N4 H r ms)
 |H,_::r,[]=>N4 H r []
def C1 (E:D9) (s:St) (w0:VW):C6:=⟨E,s.next,s.heap,(· <s.next),w0,s.next⟩
def I5 (E:D9) (f:FuncId) (st:n4) (xs:List V) (v:V):Prop:=
 ∀ (s:St) (μ:Nat→Option Nat) (F:Nat→Prop) (xsI:List Value) (w0:VW),SR (C1 E s w0) ⟨st.own,st.next,st.next⟩ ⟨s.heap,s.next,s.next⟩ μ F→f9 (s8 (C1 E s w0) st s μ F) xs xsI→
  ∃ vI,E.pcall f xsI s=some (vI,[])∧∀ w,d7 w v vI
def bD5 (E:D9) (f:FuncId) (st:n4) (xs:List V) (v:V) (ob:Obj):Prop:=
 ob.none=false∧ob.fz=false∧ob.ok=true∧∀ (s:St) (μ:Nat→Option Nat) (F:Nat→Prop) (xsI:List Value) (w0:VW),SR (C1 E s w0) ⟨st.own,st.next,st.next⟩ ⟨s.heap,s.next,s.next⟩ μ F→f9 (s8 (C1 E s w0) st s μ F) xs xsI→
  ∃ vI blk,E.pcall f xsI s=some (vI,[blk])∧∀ w:VW,st.next<w.nx→w.μ st.next=some s.next→d7 w v vI∧fN w ob blk
def yQ:List Obj→List w7→Prop
 | [],[]=>True
 |o::r,b::q=>(o.none=false∧o.fz=false∧o.ok=true∧∀ w,fN w o b)∧yQ r q
 |_,_=>False
def bD6 (E:D9) (f:FuncId) (st:n4) (xs:List V) (v:V) (obs:List Obj):Prop:=
 ∀ (s:St) (μ:Nat→Option Nat) (F:Nat→Prop) (xsI:List Value) (w0:VW),SR (C1 E s w0) ⟨st.own,st.next,st.next⟩ ⟨s.heap,s.next,s.next⟩ μ F→f9 (s8 (C1 E s w0) st s μ F) xs xsI→
  ∃ vI bs,E.pcall f xsI s=some (vI,bs)∧yQ obs bs∧∀ w:VW,st.next+obs.length≤w.nx→(∀ k,k<obs.length→w.μ (st.next+k)=some (s.next+k))→d7 w v vI
def n4.pushL:n4→List Obj→n4
 |st,[]=>st
 |st,o::r=>n4.pushL ⟨(st.next,o)::st.own,st.next+1,st.ro⟩ r
def yP (C:C6) (f:FuncId) (xs:List V) (H:D6) (nx:Nat) (Q:V→List Obj→Prop):Prop:=(∃ v,I5 C.E f ⟨H,nx,nx⟩ xs v∧Q v [])∨(∃ v ob,bD5 C.E f ⟨H,nx,nx⟩ xs v ob∧Q v [ob])∨∃ v obs,bD6 C.E f ⟨H,nx,nx⟩ xs v obs∧Q v obs
def GO (C:C6) (f:D0) (H:D6) (st:n4) (op:K8) (Q:V→List Obj→Prop):Prop:=
 match op with
 | .callF g xs=>match T7 f xs with|some vs=>yP C g vs H st.next Q|none=>False
 | .callV x xs=>match p7 f x,T7 f xs with
   |some g,some vs=>(match U2 g vs with|some (g,ws)=>yP C g ws H st.next Q|none=>False)
   |_,_=>False
 |op=>match i6 C.E.old f H st.next op with|some (v,ob,fz)=>if fz.isEmpty then Q v ob.toList else False|none=>False
def YJ (C:C6):List j9→List (List Bool)→List (Nat × Nat)→D0→n4→(D0→n4→Prop)→Prop
 | [],_,_,fr,st,Q=>Q fr st
 |o::l,hid,vds,fr,st,Q=>match o.guard with
   |none=>GO C (B9 (r4 o) fr) (N4 st.own vds (hid.headD [])) st o.op fun v obs=>YJ C l hid.tail ((st.next,obs.length)::vds) (v9 fr o.dst v) (st.pushL obs) Q
   |some (t,want)=>match i7 fr t with
     |some (.sc (.bool b))=>if b==want then GO C (B9 (r4 o) fr) (N4 st.own vds (hid.headD [])) st o.op fun v obs=>YJ C l hid.tail ((st.next,obs.length)::vds) (v9 fr o.dst v) (st.pushL obs) Q
       else YJ C l hid.tail ((st.next,0)::vds) (v9 fr o.dst (.tup [])) st Q
     |some (.tup _)=>YJ C l hid.tail ((st.next,0)::vds) (v9 fr o.dst (.tup [])) st Q
     |_=>False
def GN (C:C6):AC→D0→n4→A3→Prop
 | .skip,fr,st,P=>P .normal fr st
 | .ops l ks,fr,st,P=>YM C l fr st fun fr st=>P .normal (B9 ks fr) st
 | .draw pre tail hid ks,fr,st,P=>YJ C pre hid [] fr st fun fr st=>YM C tail fr st fun fr st=>P .normal (B9 ks fr) st
 | .drawW pre tail ks,fr,st,P=>DV C (z9 C.E (.drawW pre tail ks)) fr st P
 | .seq a b,fr,st,P=>GN C a fr st fun ex fr st=>match ex with
   | .normal=>GN C b fr st P
   |ex=>P ex fr st
 | .cond c t e,fr,st,P=>match p7 fr c with
   |some (.sc (.bool b))=>if b then GN C t fr st P else GN C e fr st P
   |_=>False
 | .block id b,fr,st,P=>GN C b fr st fun ex fr st=>match ex with
   | .exit i=>if i=id then P .normal fr st else P (.exit i) fr st
   |ex=>P ex fr st
 | .loop ks b,fr,st,P=>DV C (z9 C.E (.loop ks b)) fr st P
 | .rangeF g ps ks a b,fr,st,P=>DV C (z9 C.E (.rangeF g ps ks a b)) fr st P
 | .exit id,fr,st,P=>P (.exit id) fr st
 | .ret,fr,st,P=>P .ret fr st
 | .bad,_,_,_=>False
section
variable {C:C6} {fr:D0} {st:n4} {P:A3}
theorem DV.mono {run:Fr→St→VK} {Q:A3} (h:DV C run fr st P) (hq:∀ ex fr st,P ex fr st→Q ex fr st):DV C run fr st Q:=fun frI s hr=>by
 obtain ⟨ex,frI',s',e,fr',st',h1,h2⟩:=h frI s hr
 exact ⟨ex,frI',s',e,fr',st',h1,hq _ _ _ h2⟩
theorem Rl.stp {s:St} {frI:Fr} {μ:Nat→Option Nat} {F:Nat→Prop} (h1:SR C st s μ F) (h2:FR (s8 C st s μ F) fr frI) (h3:VW.le C.w0 (s8 C st s μ F)) (h4:s.prot=C.p0) (h5:∀ b,F b→C.w0.F b∨C.p0≤b) {r:Option (Value × St)} {v:V} {st':n4} (hs:OD C st s μ F r v st'):
  ∃ vI s',r=some (vI,s')∧∀ d,Rl C st' (v9 fr d v) s' (H6 frI d vI):=by
 obtain ⟨vI,s',μ',F',e,q1,q2,q3,q4,q5,q6⟩:=hs
 refine ⟨vI,s',e,fun d=>⟨μ',F',q1,(h2.mono q3).put q2 d,h3.trans q3,q4.trans h4,fun b hb=>?_⟩⟩
 rcases q6 b hb with hb|hb
 ·exact h5 b hb
 ·exact .inr (by rw[← h4];exact hb)
theorem oT {w:VW} {g:V} {vs ws:List V} {f:FuncId} {gI:Value} {vsI:List Value} (h:U2 g vs=some (f,ws)) (hg:d7 w g gI) (hv:f9 w vs vsI):∃ wsI,V9 gI vsI=some (f,wsI)∧f9 w ws wsI:=by
 cases g with
 |sc x=>
  have hx:=hg.ok
  have:=hg.scv
  subst this
  cases gI with
  |func fn a b=>
   cases fn with
   |func f'=>
    obtain ⟨a⟩:=a
    obtain ⟨b⟩:=b
    simp only[U2,Option.some.injEq,Prod.mk.injEq] at h
    obtain ⟨rfl,rfl⟩:=h
    simp only[D5,Bool.and_eq_true,List.isEmpty_iff] at hx
    obtain ⟨rfl,rfl⟩:=hx
    exact ⟨vsI,by simp[V9],hv⟩
   |_=>simp[U2] at h
  |_=>simp[U2] at h
 |fn f' a b=>
  simp only[U2,Option.some.injEq,Prod.mk.injEq] at h
  obtain ⟨rfl,rfl⟩:=h
  simp only[d7] at hg
  obtain ⟨as,bs,rfl,ha,hb⟩:=hg
  refine ⟨as++vsI++bs,rfl,?_⟩
  have app:∀ {l m:List V} {ls ms:List Value},f9 w l ls→f9 w m ms→f9 w (l++m) (ls++ms):=by
   intro l
   induction l with
   |nil=>intro m ls ms h1 h2;simp only[f9] at h1;subst h1;exact h2
   |cons x l ih=>
    intro m ls ms h1 h2
    simp only[f9] at h1
    obtain ⟨v,vs',rfl,a1,a2⟩:=h1
    simp only[List.cons_append,f9]
    exact ⟨v,vs'++ms,rfl,a1,ih a2 h2⟩
  exact app (app ha hv) hb
 |_=>simp[U2] at h
theorem OO {w:VW} {ms:List (TypeId × FuncId)} {g:V} {vs ws:List V} {f:FuncId} {gI:Value} {vsI:List Value} (h:eE ms g vs=some (f,ws)) (hg:d7 w g gI) (hv:f9 w vs vsI):∃ wsI,eD ms gI vsI=some (f,wsI)∧f9 w ws wsI:=by
 unfold eE at h
 split at h
 ·simp only[Option.map_eq_some_iff,Prod.mk.injEq] at h
  obtain ⟨k,h1,rfl,rfl⟩:=h
  simp only[d7] at hg
  obtain ⟨v',rfl,hg⟩:=hg
  exact ⟨v'::vsI,by simp[eD,h1],by simp only[f9];exact ⟨_,_,rfl,hg,hv⟩⟩
 ·rename_i _ _ t u
  simp only[Option.map_eq_some_iff,Prod.mk.injEq] at h
  obtain ⟨k,h1,rfl,rfl⟩:=h
  have hx:=hg.ok
  have:=hg.scv
  subst this
  exact ⟨u::vsI,by simp[eD,h1],by simp only[f9];exact ⟨_,_,rfl,.mksc (by simpa only[D5] using hx),hv⟩⟩
 ·cases h
theorem DH {op:K8} {Q:V→n4→Prop} (h:mC C fr st op Q) {s:St} {frI:Fr} (hr:Rl C st fr s frI):∃ vI s' v st',step C.E frI s op=some (vI,s')∧Q v st'∧∀ d,Rl C st' (v9 fr d v) s' (H6 frI d vI):=by
 obtain ⟨μ,F,h1,h2,h3,h4,h5⟩:=hr
 have call:∀ {f:FuncId} {ws:List V} {wsI:List Value},eZ C f ws st Q→f9 (s8 C st s μ F) ws wsI→step C.E frI s op=callI C.E f wsI s→∃ vI s' v st',step C.E frI s op=some (vI,s')∧Q v st'∧∀ d,Rl C st' (v9 fr d v) s' (H6 frI d vI):=by
  intro f ws wsI hc hw he
  obtain ⟨v,st',hq,hs⟩:=hc
  obtain ⟨vI,s',e,hl⟩:=Rl.stp h1 h2 h3 h4 h5 (hs s μ F wsI h1 hw h4)
  exact ⟨vI,s',v,st',by rw[he];exact e,hq,hl⟩
 unfold mC at h
 split at h
 ·rename_i f xs
  split at h
  case h_2=>exact h.elim
  rename_i vs hvs
  obtain ⟨vsI,a1,a2⟩:=aB h2 hvs
  exact call h a2 (by simp only[step,d6,o9,a1,Option.bind_some,callI];cases C.E.pcall f vsI s<;>rfl)
 ·rename_i x xs
  split at h
  case h_2=>exact h.elim
  rename_i g vs hg hvs
  obtain ⟨gI,b1,b2⟩:=m6 h2 hg
  obtain ⟨vsI,a1,a2⟩:=aB h2 hvs
  split at h
  case h_2=>
   unfold DZ at h
   split at h
   case h_2=>exact h.elim
   rename_i o
   have b2':=b2
   simp only[d7] at b2'
   obtain ⟨_,d,rfl,_⟩:=b2'
   obtain ⟨v,st',hq,hs⟩:=h s μ F vsI d h1 a2 h3 h4 h5 b2
   obtain ⟨vI,s',e,hl⟩:=Rl.stp h1 h2 h3 h4 h5 hs
   exact ⟨vI,s',v,st',by simp only[step,d6,o9,a1,b1,Option.bind_some,V9,Option.bind_none,HY];exact e,hq,hl⟩
  rename_i f ws hcl
  obtain ⟨wsI,c1,c2⟩:=oT hcl b2 a2
  exact call h c2 (by simp only[step,d6,o9,a1,b1,c1,OK c1,Option.bind_some,callI];cases C.E.pcall f wsI s<;>rfl)
 ·rename_i ms x xs
  split at h
  case h_2=>exact h.elim
  rename_i g vs hg hvs
  split at h
  case h_2=>exact h.elim
  rename_i f ws hcl
  obtain ⟨gI,b1,b2⟩:=m6 h2 hg
  obtain ⟨vsI,a1,a2⟩:=aB h2 hvs
  obtain ⟨wsI,c1,c2⟩:=OO hcl b2 a2
  exact call h c2 (by simp only[step,d6,o9,a1,b1,c1,Option.bind_some,callI];cases C.E.pcall f wsI s<;>rfl)
 ·split at h
  case h_2=>exact h.elim
  rename_i v st' hv
  obtain ⟨vI,s',e,hl⟩:=Rl.stp h1 h2 h3 h4 h5 (aO2 h1 h2 hv)
  exact ⟨vI,s',v,st',e,h,hl⟩
theorem Rl.put_tup {s:St} {frI:Fr} (hr:Rl C st fr s frI) (d:Option Nat):Rl C st (v9 fr d (.tup [])) s (H6 frI d (.tuple #[])):=by
 obtain ⟨μ,F,h1,h2,h3⟩:=hr
 exact ⟨μ,F,h1,h2.put (by simp only[d7,f9];exact ⟨[],rfl,rfl⟩) d,h3⟩
theorem Rl.keep {s:St} {frI:Fr} (hr:Rl C st fr s frI) (ks:List Nat):Rl C st (B9 ks fr) s (q9 ks frI):=by
 obtain ⟨μ,F,h1,h2,h3⟩:=hr
 exact ⟨μ,F,h1,h2.keep ks,h3⟩
theorem cV {s:St} {frI:Fr} (hr:Rl C st fr s frI) {t:Nat} {v:V} (h:i7 fr t=some v):(∀ b,v= .sc (.bool b)→E7 frI t=some (.bool b))∧(∀ l,v= .tup l→∃ l',E7 frI t=some (.tuple l')):=by
 obtain ⟨μ,F,h1,h2,h3⟩:=hr
 obtain ⟨vI,a,b⟩:=h2 t v h
 refine ⟨fun c e=>?_,fun l e=>?_⟩
 ·subst e;rw[b.scv] at a;exact a
 ·subst e;simp only[d7] at b;obtain ⟨vs,rfl,_⟩:=b;exact ⟨_,a⟩
theorem mB:∀ (l:List j9) {fr:D0} {st:n4} {Q:D0→n4→Prop},YM C l fr st Q→∀ {s:St} {frI:Fr},Rl C st fr s frI→∃ frI' s' fr' st',I1 C.E l frI s=some (frI',s')∧Rl C st' fr' s' frI'∧Q fr' st'
 | [],fr,st,Q,h,s,frI,hr=>⟨frI,s,fr,st,rfl,hr,h⟩
 |⟨d,g,op⟩::l,fr,st,Q,h,s,frI,hr=>by
  simp only[YM] at h
  split at h
  ·rename_i hg
   obtain ⟨vI,s',v,st',e,hq,hl⟩:=DH h hr
   obtain ⟨frI',s2,fr',st2,e2,h1,h2⟩:=mB l hq (hl d)
   exact ⟨frI',s2,fr',st2,by simp[I1,wanted,e,e2],h1,h2⟩
  ·rename_i _ t want
   split at h
   ·rename_i b hb
    have hb':=(cV hr hb).1 b rfl
    split at h
    ·rename_i hbw
     obtain ⟨vI,s',v,st',e,hq,hl⟩:=DH h hr
     obtain ⟨frI',s2,fr',st2,e2,h1,h2⟩:=mB l hq (hl d)
     exact ⟨frI',s2,fr',st2,by simp[I1,wanted,hb',hbw,e,e2],h1,h2⟩
    ·rename_i hbw
     obtain ⟨frI',s2,fr',st2,e2,h1,h2⟩:=mB l h (hr.put_tup d)
     have:(b==want)=false:=by simpa using hbw
     exact ⟨frI',s2,fr',st2,by simp[I1,wanted,hb',this,e2],h1,h2⟩
   ·rename_i l' hb
    obtain ⟨l2,hb'⟩:=(cV hr hb).2 l' rfl
    obtain ⟨frI',s2,fr',st2,e2,h1,h2⟩:=mB l h (hr.put_tup d)
    exact ⟨frI',s2,fr',st2,by simp[I1,wanted,hb',e2],h1,h2⟩
   ·exact h.elim
def fJ:List (Nat × List w7)→List Bool→Nat→Prop
 | [],_,_=>False
 |_::r,true::ms,b=>fJ r ms b
 |(n,bs)::r,false::ms,b=>(n≤b∧b<n+bs.length)∨fJ r ms b
 |_::r,[],b=>fJ r [] b
theorem nD:∀ (ds:List (Nat × List w7)) (b:Nat),¬ fJ ds [] b
 | [],_,h=>h
 |_::r,b,h=>nD r b (by simpa only[fJ] using h)
theorem nE (h:m0):∀ (ds:List (Nat × List w7)) (ms:List Bool) (b:Nat),¬ fJ ds ms b→g9 (k8 h ds ms) b=g9 (k8 h ds []) b
 | [],_,_,_=>rfl
 |(n,bs)::r,true::ms,b,hn=>by
  simp only[fJ] at hn
  simp only[k8]
  rw[x7,x7,nE h r ms b hn]
 |(n,bs)::r,false::ms,b,hn=>by
  simp only[fJ,not_or] at hn
  simp only[k8]
  rw[x7,if_neg hn.1,nE h r ms b hn.2]
 |(n,bs)::r,[],b,hn=>rfl
def Al (μ:Nat→Option Nat) (lo:Nat):List (Nat × List w7)→List (Nat × Nat)→Prop
 | [],[]=>True
 |(n,bs)::r,(o,c)::q=>lo≤n∧bs.length=c∧(∀ k,k<c→μ (o+k)=some (n+k))∧Al μ lo r q
 |_,_=>False
theorem oL (H:D6):∀ (c o i:Nat),i7 (QW o c H) i=if o≤i∧i<o+c then none else i7 H i
 |0,o,i=>by rw[if_neg (by omega)];rfl
 |c+1,o,i=>by
  rw[QW,M2,oL H c (o+1) i]
  by_cases h:i=o
  ·subst h
   rw[if_pos rfl,if_pos (by omega)]
  ·rw[if_neg h]
   by_cases h2:o+1≤i∧i<o+1+c
   ·rw[if_pos h2,if_pos (by omega)]
   ·rw[if_neg h2,if_neg (by omega)]
theorem X8 (H:D6):∀ (vds:List (Nat × Nat)) (ms:List Bool) (o:Nat) (ob:Obj),i7 (N4 H vds ms) o=some ob→i7 H o=some ob
 | [],_,_,_,h=>h
 |_::r,true::ms,o,ob,h=>X8 H r ms o ob (by simpa only[N4] using h)
 |(i,c)::r,false::ms,o,ob,h=>by
  simp only[N4,oL] at h
  split at h
  ·cases h
  ·exact X8 H r ms o ob h
 |_::r,[],o,ob,h=>X8 H r [] o ob (by simpa only[N4] using h)
theorem OE {μ:Nat→Option Nat} (hinj:∀ o o' b,μ o=some b→μ o'=some b→o=o') (H:D6) {lo:Nat}:∀ (ds:List (Nat × List w7)) (vds:List (Nat × Nat)) (ms:List Bool) (o:Nat) (ob:Obj) (b:Nat),Al μ lo ds vds→i7 (N4 H vds ms) o=some ob→μ o=some b→¬ fJ ds ms b
 | [],[],ms,o,ob,b,_,_,_=>fun h=>h
 |(n,bs)::r,(i,c)::q,true::ms,o,ob,b,ha,h,hm=>by
  simp only[Al] at ha
  simp only[N4] at h
  simp only[fJ]
  exact OE hinj H r q ms o ob b ha.2.2.2 h hm
 |(n,bs)::r,(i,c)::q,false::ms,o,ob,b,ha,h,hm=>by
  simp only[Al] at ha
  simp only[N4,oL] at h
  simp only[fJ,not_or]
  refine ⟨fun hb=>?_,?_⟩
  ·have h1:=ha.2.2.1 (b - n) (by omega)
   rw[show n+(b - n)=b by omega] at h1
   have:=hinj o _ b hm h1
   rw[if_pos (by omega)] at h
   cases h
  ·split at h
   ·cases h
   ·exact OE hinj H r q ms o ob b ha.2.2.2 h hm
 |(n,bs)::r,(i,c)::q,[],o,ob,b,ha,h,hm=>nD _ _
 | [],_::_,ms,o,ob,b,ha,_,_=>by simp[Al] at ha
 |_::_,[],ms,o,ob,b,ha,_,_=>by simp[Al] at ha
theorem OF {μ:Nat→Option Nat} {lo:Nat}:∀ (ds:List (Nat × List w7)) (vds:List (Nat × Nat)) (ms:List Bool) (b:Nat),Al μ lo ds vds→b<lo→¬ fJ ds ms b
 | [],[],ms,b,_,_=>fun h=>h
 |(n,bs)::r,(i,c)::q,true::ms,b,ha,h=>by
  simp only[Al] at ha
  simp only[fJ]
  exact OF r q ms b ha.2.2.2 h
 |(n,bs)::r,(i,c)::q,false::ms,b,ha,h=>by
  simp only[Al] at ha
  simp only[fJ,not_or]
  exact ⟨fun hb=>by omega,OF r q ms b ha.2.2.2 h⟩
 |(n,bs)::r,(i,c)::q,[],b,ha,h=>nD _ _
 | [],_::_,ms,b,ha,_=>by simp[Al] at ha
 |_::_,[],ms,b,ha,_=>by simp[Al] at ha
theorem YR {μ:Nat→Option Nat} {lo:Nat}:∀ (ds:List (Nat × List w7)) (vds:List (Nat × Nat)) (ms:List Bool) (b:Nat),Al μ lo ds vds→fJ ds ms b→∃ o,μ o=some b
 | [],[],ms,b,_,h=>h.elim
 |(n,bs)::r,(i,c)::q,true::ms,b,ha,h=>by
  simp only[Al] at ha
  simp only[fJ] at h
  exact YR r q ms b ha.2.2.2 h
 |(n,bs)::r,(i,c)::q,false::ms,b,ha,h=>by
  simp only[Al] at ha
  simp only[fJ] at h
  rcases h with hb|h
  ·have h1:=ha.2.2.1 (b - n) (by omega)
   rw[show n+(b - n)=b by omega] at h1
   exact ⟨_,h1⟩
  ·exact YR r q ms b ha.2.2.2 h
 |(n,bs)::r,(i,c)::q,[],b,ha,h=>(nD _ _ h).elim
 | [],_::_,ms,b,ha,_=>by simp[Al] at ha
 |_::_,[],ms,b,ha,_=>by simp[Al] at ha
theorem Al.mono {μ μ':Nat→Option Nat} {lo:Nat} (hm:∀ o b,μ o=some b→μ' o=some b):∀ (ds:List (Nat × List w7)) (vds:List (Nat × Nat)),Al μ lo ds vds→Al μ' lo ds vds
 | [],[],_=>trivial
 |(n,bs)::r,(i,c)::q,h=>by
  simp only[Al] at h ⊢
  exact ⟨h.1,h.2.1,fun k hk=>hm _ _ (h.2.2.1 k hk),Al.mono hm r q h.2.2.2⟩
 | [],_::_,h=>by simp[Al] at h
 |_::_,[],h=>by simp[Al] at h
theorem SR.pushM {C:C6} {F:Nat→Prop}:∀ (obs:List Obj) (bs:List w7) {st:n4} {s:St} {μ:Nat→Option Nat},SR C st s μ F→yQ obs bs→
  ∃ μ',SR C (st.pushL obs) (s.push bs) μ' F∧VW.le (s8 C st s μ F) (s8 C (st.pushL obs) (s.push bs) μ' F)∧(∀ o b,μ o=some b→μ' o=some b)∧obs.length=bs.length∧∀ k,k<obs.length→μ' (st.next+k)=some (s.next+k)
 | [],[],st,s,μ,h,_=>⟨μ,by rw[nT];exact h,by rw[nT];exact VW.le.refl _,fun _ _ e=>e,rfl,fun k hk=>absurd hk (Nat.not_lt_zero _)⟩
 |o::r,b::q,st,s,μ,h,ho=>by
  simp only[yQ] at ho
  obtain ⟨⟨a1,a2,a3,a4⟩,hr⟩:=ho
  obtain ⟨h1,_,h2,_⟩:=h.push (v:= .tup []) (ob:=some o) (fz:= []) (vI:= .tuple #[]) (bs:= [b]) ⟨a1,a2,a3,b,rfl,fun w' _ _ _ _ _=>⟨by simp only[d7,f9];exact ⟨[],rfl,rfl⟩,a4 w'⟩⟩ rfl
  rw[K3] at h1 h2
  have e:st.push (some o) []=⟨(st.next,o)::st.own,st.next+1,st.ro⟩:=by simp[n4.push,s5]
  rw[e] at h1 h2
  have e2:(s.push [b]).push q=s.push (b::q):=by
   simp only[St.push,w6,List.length_cons,List.length_nil,St.mk.injEq,true_and]
   exact ⟨by omega,trivial⟩
  obtain ⟨μ',j1,j2,j3,j4,j5⟩:=SR.pushM r q h1 hr
  rw[e2] at j1 j2
  have hm:∀ i b',μ i=some b'→KI μ st s (some o) i=some b':=fun i b' e'=>by
   have:=(h.dom i b' e').2.1
   simp only[KI]
   rw[if_neg (by omega)]
   exact e'
  refine ⟨μ',j1,h2.trans j2,fun i b' e'=>j3 _ _ (hm i b' e'),by simp[j4],fun k hk=>?_⟩
  cases k with
  |zero=>exact j3 _ _ (by simp[KI])
  |succ k=>
   have:=j5 k (by simpa using hk)
   rw[show st.next+(k+1)=st.next+1+k by omega,show s.next+(k+1)=s.next+1+k by omega]
   exact this
 | [],_::_,_,_,_,_,h=>by simp[yQ] at h
 |_::_,[],_,_,_,_,h=>by simp[yQ] at h
theorem vT:∀ (obs:List Obj) (st:n4),(st.pushL obs).next=st.next+obs.length
 | [],st=>rfl
 |o::r,st=>by rw[n4.pushL,vT r];simp only[List.length_cons];omega
theorem QP (s0:St) (F:Nat→Prop) (hF0:∀ b,F b→b<s0.next):∀ (l:List j9) (hid:List (List Bool)) {vds:List (Nat × Nat)} {ds:List (Nat × List w7)} {fr:D0} {st:n4} {Q:D0→n4→Prop} {μ:Nat→Option Nat} {frI:Fr} {n:Nat},YJ C l hid vds fr st Q→
  SR C st ⟨k8 s0.heap ds [],n,s0.prot⟩ μ F→FR (s8 C st ⟨k8 s0.heap ds [],n,s0.prot⟩ μ F) fr frI→VW.le C.w0 (s8 C st ⟨k8 s0.heap ds [],n,s0.prot⟩ μ F)→s0.prot=C.p0→(∀ b,F b→C.w0.F b∨C.p0≤b)→Al μ s0.next ds vds→s0.next≤n→
  ∃ frI' ds' n' fr' st',Y4 C.E s0 l hid ds frI n=some (frI',ds',n')∧Rl C st' fr' ⟨k8 s0.heap ds' [],n',s0.prot⟩ frI'∧Q fr' st'
 | [],hid,vds,ds,fr,st,Q,μ,frI,n,h,h1,h2,h3,h4,h5,h6,h7=>⟨frI,ds,n,fr,st,rfl,⟨μ,F,h1,h2,h3,h4,h5⟩,h⟩
 |⟨d,g,op⟩::l,hid,vds,ds,fr,st,Q,μ,frI,n,h,h1,h2,h3,h4,h5,h6,h7=>by
  have hrl:Rl C st fr ⟨k8 s0.heap ds [],n,s0.prot⟩ frI:=⟨μ,F,h1,h2,h3,h4,h5⟩
  let m:=hid.headD []
  let hp:=k8 s0.heap ds m
  let wv:VW:=⟨n7 C.E hp,F,μ,st.next⟩
  have hFg:∀ b,F b→g9 hp b=g9 (k8 s0.heap ds []) b:=fun b hb=>nE _ _ _ _ (OF ds vds m b h6 (hF0 b hb))
  have hld:∀ a,(s8 C st ⟨k8 s0.heap ds [],n,s0.prot⟩ μ F).inF a→n7 C.E hp a=n7 C.E (k8 s0.heap ds []) a:=fun a i=>by
   obtain ⟨b,o,sp⟩:=a
   cases sp with
   |none=>rfl
   |some k=>simp only[n7];rw[hFg b i]
  have hle:VW.le (s8 C st ⟨k8 s0.heap ds [],n,s0.prot⟩ μ F) wv:=⟨hld,fun _ h=>h,Nat.le_refl _,fun _ _ _ h=>h⟩
  have hle2:VW.le wv (s8 C st ⟨k8 s0.heap ds [],n,s0.prot⟩ μ F):=⟨fun a i=>(hld a i).symm,fun _ h=>h,Nat.le_refl _,fun _ _ _ h=>h⟩
  have hHR:HR C.E (N4 st.own vds m) hp wv:=by
   refine ⟨rfl,fun o ob e hn=>?_,fun b hb=>?_⟩
   ·obtain ⟨b,blk,m1,m2,m3⟩:=h1.obj o ob (X8 _ _ _ _ _ e) hn
    exact ⟨b,blk,m1,by rw[nE _ _ _ _ (OE h1.inj st.own ds vds m o ob b h6 e m1)];exact m2,m3.mono hle⟩
   ·obtain ⟨blk,hb'⟩:=(h1.lt b hb).2
    exact ⟨blk,by rw[hFg b hb];exact hb'⟩
  have hreads:FR wv (B9 (r4 ⟨d,g,op⟩) fr) (q9 (r4 ⟨d,g,op⟩) frI):=(h2.mono hle).keep _
  let PM:V→List Obj→Value→List w7→Prop:=fun v obs vI bs=>∃ μ',SR C (st.pushL obs) ⟨k8 s0.heap ((n,bs)::ds) [],n+bs.length,s0.prot⟩ μ' F∧d7 (s8 C (st.pushL obs) ⟨k8 s0.heap ((n,bs)::ds) [],n+bs.length,s0.prot⟩ μ' F) v vI∧
   VW.le (s8 C st ⟨k8 s0.heap ds [],n,s0.prot⟩ μ F) (s8 C (st.pushL obs) ⟨k8 s0.heap ((n,bs)::ds) [],n+bs.length,s0.prot⟩ μ' F)∧(∀ o b,μ o=some b→μ' o=some b)∧bs.length=obs.length∧∀ k,k<obs.length→μ' (st.next+k)=some (n+k)
  have next:∀ {v:V} {obs:List Obj} {vI:Value} {bs:List w7},PM v obs vI bs→YJ C l hid.tail ((st.next,obs.length)::vds) (v9 fr d v) (st.pushL obs) Q→d6 C.E (q9 (r4 ⟨d,g,op⟩) frI) ⟨hp,n,n⟩ op=some (vI,bs)→wanted (q9 (r4 ⟨d,g,op⟩) frI) g=some true→
    ∃ frI' ds' n' fr' st',Y4 C.E s0 (⟨d,g,op⟩::l) hid ds frI n=some (frI',ds',n')∧Rl C st' fr' ⟨k8 s0.heap ds' [],n',s0.prot⟩ frI'∧Q fr' st':=by
   intro v obs vI bs hp1 hq he hw
   obtain ⟨μ',q1,q2,q3,q4,q5,q6⟩:=hp1
   have hal:Al μ' s0.next ((n,bs)::ds) ((st.next,obs.length)::vds):=by
    simp only[Al]
    exact ⟨h7,q5,q6,Al.mono q4 ds vds h6⟩
   obtain ⟨frI',ds',n',fr',st',e1,e2,e3⟩:=QP s0 F hF0 l hid.tail (ds:=(n,bs)::ds) (n:=n+bs.length) (frI:=H6 frI d vI) hq q1 ((h2.mono q3).put q2 d) (h3.trans q3) h4 h5 hal (by omega)
   refine ⟨frI',ds',n',fr',st',?_,e2,e3⟩
   simp only[Y4,hw,Option.bind_some]
   rw[show d6 C.E (q9 (r4 ⟨d,g,op⟩) frI) ⟨k8 s0.heap ds (hid.headD []),n,n⟩ op=some (vI,bs) from he]
   exact e1
  have one:∀ {v:V} {ob:Option Obj} {vI:Value} {bs:List w7},kI hp wv n v ob [] vI bs→PM v ob.toList vI bs:=by
   intro v ob vI bs hp1
   have hp2:kI (k8 s0.heap ds []) (s8 C st ⟨k8 s0.heap ds [],n,s0.prot⟩ μ F) n v ob [] vI bs:=by
    cases ob with
    |none=>exact ⟨hp1.1,hp1.2.1,hp1.2.2.mono hle2⟩
    |some o=>
     obtain ⟨a1,a2,a3,blk,a4,a5⟩:=hp1
     exact ⟨a1,a2,a3,blk,a4,fun w' k1 k2 k3 k4 k5=>a5 w' (hle2.trans k1) (fun o ho=>by cases ho) (fun o ho=>by cases ho) k4 k5⟩
   obtain ⟨q1,q2,q3,q4⟩:=h1.push hp2 rfl
   rw[K3] at q1 q2 q3
   cases ob with
   |none=>
    have e:st.push none []=st:=by simp[n4.push,s5]
    rw[e] at q1 q2 q3
    rw[hp1.1] at q1 q2 q3 ⊢
    exact ⟨_,q1,q2,q3,fun _ _ h=>h,rfl,fun k hk=>absurd hk (Nat.not_lt_zero _)⟩
   |some o=>
    have e:st.push (some o) []=⟨(st.next,o)::st.own,st.next+1,st.ro⟩:=by simp[n4.push,s5]
    rw[e] at q1 q2 q3
    obtain ⟨_,_,_,blk,a4,_⟩:=hp1
    refine ⟨_,q1,q2,q3,fun o' b e=>?_,by rw[a4];rfl,fun k hk=>?_⟩
    ·have:=(h1.dom o' b e).2.1
     simp only[KI]
     rw[if_neg (by omega)]
     exact e
    ·have:k=0:=by simpa using hk
     subst this
     simp[KI]
  have skip:YJ C l hid.tail ((st.next,0)::vds) (v9 fr d (.tup [])) st Q→wanted (q9 (r4 ⟨d,g,op⟩) frI) g=some false→
    ∃ frI' ds' n' fr' st',Y4 C.E s0 (⟨d,g,op⟩::l) hid ds frI n=some (frI',ds',n')∧Rl C st' fr' ⟨k8 s0.heap ds' [],n',s0.prot⟩ frI'∧Q fr' st':=by
   intro hq hw
   have hal:Al μ s0.next ((n,[])::ds) ((st.next,0)::vds):=by
    simp only[Al]
    exact ⟨h7,rfl,fun k hk=>absurd hk (Nat.not_lt_zero _),h6⟩
   obtain ⟨frI',ds',n',fr',st',e1,e2,e3⟩:=QP s0 F hF0 l hid.tail (ds:=(n,[])::ds) (n:=n) (frI:=H6 frI d (.tuple #[])) hq h1 (h2.put (by simp only[d7,f9];exact ⟨[],rfl,rfl⟩) d) h3 h4 h5 hal h7
   refine ⟨frI',ds',n',fr',st',?_,e2,e3⟩
   simp only[Y4,hw,Option.bind_some]
   exact e1
  have run:∀ {Q':V→List Obj→Prop},GO C (B9 (r4 ⟨d,g,op⟩) fr) (N4 st.own vds m) st op Q'→∃ v obs vI bs,PM v obs vI bs∧Q' v obs∧d6 C.E (q9 (r4 ⟨d,g,op⟩) frI) ⟨hp,n,n⟩ op=some (vI,bs):=by
   intro Q' hq
   have hbnd:∀ b blk,g9 hp b=some blk→b<n:=fun b blk hb=>by
    by_cases hh:fJ ds m b
    ·obtain ⟨o,e⟩:=YR ds vds m b h6 hh;exact (h1.dom o b e).1
    ·rw[nE _ _ _ _ hh] at hb;exact h1.hb b blk hb
   have call:∀ {f:FuncId} {ws:List V} {wsI:List Value},yP C f ws (N4 st.own vds m) st.next Q'→f9 wv ws wsI→d6 C.E (q9 (r4 ⟨d,g,op⟩) frI) ⟨hp,n,n⟩ op=C.E.pcall f wsI ⟨hp,n,n⟩→
     ∃ v obs vI bs,PM v obs vI bs∧Q' v obs∧d6 C.E (q9 (r4 ⟨d,g,op⟩) frI) ⟨hp,n,n⟩ op=some (vI,bs):=by
    intro f ws wsI hc hw he
    let μm:Nat→Option Nat:=fun o=>if (i7 (N4 st.own vds m) o).isSome then μ o else none
    have hμm:∀ o b,μm o=some b→μ o=some b∧∃ ob,i7 (N4 st.own vds m) o=some ob:=fun o b e=>by
     simp only[μm] at e
     split at e
     ·rename_i hs;exact ⟨e,Option.isSome_iff_exists.1 hs⟩
     ·cases e
    have hle3:VW.le wv ⟨n7 C.E hp,F,μm,st.next⟩:=⟨fun _ _=>rfl,fun _ h=>h,Nat.le_refl _,fun o b _ e=>(hμm o b e).1⟩
    have hsr:SR (C1 C.E ⟨hp,n,n⟩ wv) ⟨N4 st.own vds m,st.next,st.next⟩ ⟨hp,n,n⟩ μm F:=by
     refine ⟨?_,?_,?_,?_,?_,?_,?_,?_,Nat.le_refl _,?_,hbnd,Nat.le_refl _,?_⟩
     ·intro o ob e hn
      obtain ⟨b,blk,m1,m2,m3⟩:=hHR.obj o ob e hn
      exact ⟨b,blk,by simp only[μm,e,Option.isSome_some,if_true];exact m1,m2,m3.mono hle3⟩
     ·intro o ob b e e2 hz
      have e3:=X8 _ _ _ _ _ e
      refine ⟨(h1.wr o ob b e3 (hμm o b e2).1 hz).1,fun hro=>?_⟩
      have:=(h1.own o ob e3).1
      simp only at hro;omega
     ·intro o ob b e e2 hz
      exact h1.fz o ob b (X8 _ _ _ _ _ e) (hμm o b e2).1 hz
     ·intro o o' b e e'
      exact h1.inj o o' b (hμm o b e).1 (hμm o' b e').1
     ·intro o b e
      obtain ⟨e1,ob,e2⟩:=hμm o b e
      obtain ⟨d1,d2,ob',d3,d4⟩:=h1.dom o b e1
      have:=X8 _ _ _ _ _ e2
      rw[d3] at this
      cases this
      exact ⟨d1,d2,_,e2,d4⟩
     ·intro b hb
      exact ⟨(h1.lt b hb).1,hHR.ex b hb⟩
     ·intro b hb
      obtain ⟨blk,c1,c2⟩:=h1.cl b hb
      exact ⟨blk,by rw[show (⟨hp,n,n⟩:St).heap=hp from rfl,hFg b hb];exact c1,c2⟩
     ·intro b hb
      exact ⟨hb,rfl⟩
     ·intro o ob e
      exact h1.own o ob (X8 _ _ _ _ _ e)
     ·intro o b e hro
      have:=(h1.dom o b (hμm o b e).1).2.1
      simp only at hro;omega
    rcases hc with ⟨v,hc,hv⟩|⟨v,ob,⟨o1,o2,o3,hc⟩,hv⟩|⟨v,obs,hc,hv⟩
    ·obtain ⟨vI,e1,e2⟩:=hc ⟨hp,n,n⟩ μm F wsI wv hsr (f9.mono hle3 hw)
     exact ⟨v,[],vI,[],one (ob:=none) (.pure (e2 wv)),hv,by rw[he];exact e1⟩
    ·obtain ⟨vI,blk,e1,e2⟩:=hc ⟨hp,n,n⟩ μm F wsI wv hsr (f9.mono hle3 hw)
     exact ⟨v,[ob],vI,[blk],one (ob:=some ob) ⟨o1,o2,o3,blk,rfl,fun w' _ _ _ k4 k5=>e2 w' k4 k5⟩,hv,by rw[he];exact e1⟩
    ·obtain ⟨vI,bs,e1,e2,e3⟩:=hc ⟨hp,n,n⟩ μm F wsI wv hsr (f9.mono hle3 hw)
     obtain ⟨μ',q1,q2,q3,q4,q5⟩:=h1.pushM obs bs e2
     exact ⟨v,obs,vI,bs,⟨μ',q1,e3 _ (by show st.next+obs.length≤(st.pushL obs).next;rw[vT];exact Nat.le_refl _) q5,q2,q3,q4.symm,q5⟩,hv,by rw[he];exact e1⟩
   unfold GO at hq
   split at hq
   ·split at hq
    case h_2=>exact hq.elim
    rename_i vs hvs
    obtain ⟨vsI,a1,a2⟩:=aB hreads hvs
    exact call hq a2 (by simp only[d6,a1,Option.bind_some])
   ·split at hq
    case h_2=>exact hq.elim
    rename_i g' vs hg hvs
    split at hq
    case h_2=>exact hq.elim
    rename_i f ws hcl
    obtain ⟨gI,b1,b2⟩:=m6 hreads hg
    obtain ⟨vsI,a1,a2⟩:=aB hreads hvs
    obtain ⟨wsI,c1,c2⟩:=oT hcl b2 a2
    exact call hq c2 (by simp only[d6,a1,b1,c1,Option.bind_some])
   ·split at hq
    case h_2=>exact hq.elim
    rename_i v ob fz hv
    split at hq
    case isFalse=>exact hq.elim
    rename_i hz
    rw[List.isEmpty_iff] at hz
    subst hz
    obtain ⟨vI,bs,e1,e2⟩:=qE (n:=n) (p:=n) hHR hreads hv
    exact ⟨v,ob.toList,vI,bs,one e2,hq,e1⟩
  simp only[YJ] at h
  split at h
  ·obtain ⟨v,ob,vI,bs,r1,r2,r3⟩:=run h
   exact next r1 r2 r3 rfl
  ·rename_i _ t want
   have ht:t ∈ r4 ⟨d,some (t,want),op⟩:=by simp[r4]
   split at h
   ·rename_i b hb
    have hb':=(cV hrl hb).1 b rfl
    split at h
    ·rename_i hbw
     obtain ⟨v,ob,vI,bs,r1,r2,r3⟩:=run h
     exact next r1 r2 r3 (by simp only[wanted];rw[I7 _ _ _ ht,hb'];simp[hbw])
    ·rename_i hbw
     have hbw':(b==want)=false:=by simpa using hbw
     exact skip h (by simp only[wanted];rw[I7 _ _ _ ht,hb'];simp[hbw'])
   ·rename_i l' hb
    obtain ⟨l2,hb'⟩:=(cV hrl hb).2 l' rfl
    exact skip h (by simp only[wanted];rw[I7 _ _ _ ht,hb'];rfl)
   ·exact h.elim
theorem cP:∀ (c:AC) {fr:D0} {st:n4} {P:A3},GN C c fr st P→DV C (z9 C.E c) fr st P
 | .skip,fr,st,P,h,frI,s,hr=>⟨.normal,frI,s,rfl,fr,st,hr,h⟩
 | .ops l ks,fr,st,P,h,frI,s,hr=>by
  obtain ⟨frI',s',fr',st',e,h1,h2⟩:=mB l h hr
  exact ⟨.normal,q9 ks frI',s',by simp[z9,e],B9 ks fr',st',h1.keep ks,h2⟩
 | .draw pre tail hid ks,fr,st,P,h,frI,s,hr=>by
  simp only[GN] at h
  obtain ⟨μ,F,h1,h2,h3,h4,h5⟩:=hr
  obtain ⟨frI',ds,n,fr',st',e,g1,g2⟩:=QP s F (fun b hb=>(h1.lt b hb).1) pre hid (ds:= []) (n:=s.next) (frI:=frI) h h1 h2 h3 h4 h5 trivial (Nat.le_refl _)
  obtain ⟨frI2,s2,fr2,st2,e2,k1,k2⟩:=mB tail g2 g1
  refine ⟨.normal,q9 ks frI2,s2,?_,B9 ks fr2,st2,k1.keep ks,k2⟩
  simp only[z9,e,Option.bind_some]
  rw[e2]
  rfl
 | .drawW pre tail ks,fr,st,P,h,frI,s,hr=>h frI s hr
 | .seq a b,fr,st,P,h,frI,s,hr=>by
  obtain ⟨ex,frI',s',e,fr',st',h1,h2⟩:=cP a h frI s hr
  cases ex with
  |normal=>
   obtain ⟨ex2,frI2,s2,e2,fr2,st2,k1,k2⟩:=cP b h2 frI' s' h1
   exact ⟨ex2,frI2,s2,by simp[z9,e,e2],fr2,st2,k1,k2⟩
  |exit i=>exact ⟨.exit i,frI',s',by simp[z9,e],fr',st',h1,h2⟩
  |ret=>exact ⟨.ret,frI',s',by simp[z9,e],fr',st',h1,h2⟩
 | .cond c t e,fr,st,P,h,frI,s,hr=>by
  simp only[GN] at h
  split at h
  case h_2=>exact h.elim
  rename_i b hb
  obtain ⟨μ,F,h1,h2,h3⟩:=hr
  obtain ⟨vI,a1,a2⟩:=m6 h2 hb
  rw[a2.scv] at a1
  split at h
  ·rename_i hbt
   subst hbt
   obtain ⟨ex,frI',s',e1,fr',st',k1,k2⟩:=cP t h frI s ⟨μ,F,h1,h2,h3⟩
   exact ⟨ex,frI',s',by simp[z9,a1,e1],fr',st',k1,k2⟩
  ·rename_i hbt
   simp only[Bool.not_eq_true] at hbt
   subst hbt
   obtain ⟨ex,frI',s',e1,fr',st',k1,k2⟩:=cP e h frI s ⟨μ,F,h1,h2,h3⟩
   exact ⟨ex,frI',s',by simp[z9,a1,e1],fr',st',k1,k2⟩
 | .block id b,fr,st,P,h,frI,s,hr=>by
  obtain ⟨ex,frI',s',e,fr',st',h1,h2⟩:=cP b h frI s hr
  cases ex with
  |normal=>exact ⟨.normal,frI',s',by simp[z9,e],fr',st',h1,h2⟩
  |ret=>exact ⟨.ret,frI',s',by simp[z9,e],fr',st',h1,h2⟩
  |exit i=>
   simp only at h2
   by_cases hi:i=id
   ·rw[if_pos hi] at h2
    exact ⟨.normal,frI',s',by simp only[z9,e,Option.map_some];rw[if_pos (j7.2 hi)],fr',st',h1,h2⟩
   ·rw[if_neg hi] at h2
    exact ⟨.exit i,frI',s',by simp only[z9,e,Option.map_some];rw[if_neg (by rw[j7];exact hi)],fr',st',h1,h2⟩
 | .loop ks b,fr,st,P,h,frI,s,hr=>h frI s hr
 | .rangeF g ps ks a b,fr,st,P,h,frI,s,hr=>h frI s hr
 | .exit id,fr,st,P,h,frI,s,hr=>⟨.exit id,frI,s,rfl,fr,st,hr,h⟩
 | .ret,fr,st,P,h,frI,s,hr=>⟨.ret,frI,s,rfl,fr,st,hr,h⟩
 | .bad,fr,st,P,h,frI,s,hr=>h.elim
def L2 (C:C6) (fr:D0) (st:n4) (fr':D0) (st':n4):Prop:=∀ s frI,Rl C st fr s frI→Rl C st' fr' s frI
theorem L2.refl (fr:D0) (st:n4):L2 C fr st fr st:=fun _ _ h=>h
def YN (C:C6) (I:Nat→D0→n4→Prop) (m:Nat) (P:A3):A3
 | .normal,fr,st=>∃ m' fr' st',m'<m∧L2 C fr st fr' st'∧I m' fr' st'
 |ex,fr,st=>P ex fr st
theorem bA8 {ks:List Nat} {b:AC} (I:Nat→D0→n4→Prop) (hround:∀ m fr st,I m fr st→GN C b (B9 ks fr) st (YN C I m P)):
  ∀ (N m:Nat) (fr:D0) (st:n4) (frI:Fr) (s:St),I m fr st→m<N→Rl C st fr s frI→∃ ex frI' s',iter (fun fr s=>z9 C.E b (q9 ks fr) s) N frI s=some (ex,frI',s')∧∃ fr' st',Rl C st' fr' s' frI'∧P ex fr' st'
 |0,m,fr,st,frI,s,hi,hm,hr=>absurd hm (Nat.not_lt_zero _)
 |N+1,m,fr,st,frI,s,hi,hm,hr=>by
  obtain ⟨ex,frI',s',e,fr',st',h1,h2⟩:=cP b (hround m fr st hi) (q9 ks frI) s (hr.keep ks)
  cases ex with
  |normal=>
   obtain ⟨m',fr2,st2,hlt,hw,hi'⟩:=h2
   obtain ⟨ex3,frI3,s3,e3,fr3,st3,k1,k2⟩:=bA8 I hround N m' fr2 st2 frI' s' hi' (by omega) (hw s' frI' h1)
   exact ⟨ex3,frI3,s3,by simp only[iter,e];exact e3,fr3,st3,k1,k2⟩
  |exit i=>exact ⟨.exit i,frI',s',by simp only[iter,e],fr',st',h1,h2⟩
  |ret=>exact ⟨.ret,frI',s',by simp only[iter,e],fr',st',h1,h2⟩
theorem aA3 {ks:List Nat} {b:AC} (I:Nat→D0→n4→Prop) (m:Nat) (fr':D0) (st':n4) (hw:L2 C fr st fr' st') (hi:I m fr' st') (hm:m<C.E.rounds) (hround:∀ m fr st,I m fr st→GN C b (B9 ks fr) st (YN C I m P)):
  DV C (z9 C.E (.loop ks b)) fr st P:=fun frI s hr=>by
 obtain ⟨ex,frI',s',e,h⟩:=bA8 I hround C.E.rounds m fr' st' frI s hi hm (hw s frI hr)
 exact ⟨ex,frI',s',e,h⟩
end
mutual
def V7:V→List Nat
 | .ref o _ _ _=> [o]
 | .gr _ o _=> [o]
 | .ptr o _=> [o]
 | .agg l=>fG l
 | .tup l=>fG l
 | .fn _ a b=>fG a++fG b
 | .ifc _ v=>V7 v
 |_=> []
def fG:List V→List Nat
 | []=> []
 |v::r=>V7 v++fG r
end
mutual
def Cl (H:D6):V→Prop
 | .sc _=>True
 | .sl s n l=>yL (.sl s n l)=true
 | .slk _ _ _ _=>True
 | .dp _ _=>True
 | .ref o _ _ _=>∃ ob,i7 H o=some ob∧ob.none=false
 | .gr s o n=>∃ t e z l,i7 H o=some (.gro t e z l)∧(n=0↔l= [])
 | .ptr o _=>∃ ob,i7 H o=some ob∧ob.none=false
 | .agg l=>OB H l
 | .tup l=>OB H l
 | .fn _ a b=>OB H a∧OB H b
 | .ifc _ v=>Cl H v
 | .dead=>False
 | .tok _=>False
def OB (H:D6):List V→Prop
 | []=>True
 |v::r=>Cl H v∧OB H r
end
inductive VR (H:D6) (v:V):Nat→Prop
 |root (o:Nat):o ∈ V7 v→VR H v o
 |box (o o1:Nat) (t:TypeId) (e:Nat) (l:List V):VR H v o1→i7 H o1=some (.box t e l)→o ∈ fG l→VR H v o
structure kJ (H:D6) (v:V):Prop where
 cl:Cl H v
 box:∀ o t e l,i7 H o=some (.box t e l)→OB H l
 all:∀ o ob,i7 H o=some ob→ob.none=false→VR H v o
def W3 (n0:Nat) (done:List Nat):m0→Nat
 | []=>0
 |(j,b)::r=>(if m8 j done then 0 else (z0 n0 b.cells).length)+W3 n0 done r
theorem LL (n0:Nat):∀ h:m0,W3 n0 [] h=sH n0 h
 | []=>rfl
 |(j,b)::r=>by simp[W3,sH,m8,LL n0 r]
theorem LM (x i j:Nat) (done:List Nat):(if m8 j (i::done)=true then 0 else x)≤(if m8 j done=true then 0 else x):=by
 have h:m8 j done=true→m8 j (i::done)=true:=fun h=>(l8 _ _).2 (List.mem_cons_of_mem _ ((l8 _ _).1 h))
 by_cases h1:m8 j (i::done)=true
 ·rw[if_pos h1];exact Nat.zero_le _
 ·rw[if_neg h1,if_neg (fun h2=>h1 (h h2))];exact Nat.le_refl _
theorem BT (n0:Nat) (i:Nat) (done:List Nat):∀ h:m0,W3 n0 (i::done) h≤W3 n0 done h
 | []=>Nat.le_refl _
 |(j,b)::r=>by
  have ih:=BT n0 i done r
  simp only[W3]
  have:=LM (z0 n0 b.cells).length i j done
  omega
theorem BS (n0:Nat) (i:Nat) (done:List Nat) (hi:¬ m8 i done=true):∀ (h:m0) (b:w7),g9 h i=some b→W3 n0 (i::done) h+(z0 n0 b.cells).length≤W3 n0 done h
 | [],b,h=>by cases h
 |(j,c)::r,b,h=>by
  rw[m9] at h
  simp only[W3]
  split at h
  ·rename_i hij
   cases h
   subst hij
   have:=BT n0 i done r
   rw[if_pos ((l8 _ _).2 List.mem_cons_self),if_neg hi]
   omega
  ·rename_i hij
   have ih:=BS n0 i done hi r b h
   have:=LM (z0 n0 c.cells).length i j done
   omega
theorem iA {n0:Nat} {h:m0} {R:Nat→Prop} (hR:∀ b,R b→n0≤b→∃ blk,g9 h b=some blk∧∀ i ∈ z0 n0 blk.cells,R i):∀ (f:Nat) (todo done:List Nat),(∀ i ∈ todo,n0≤i∧R i)→todo.length+W3 n0 done h≤f→∃ d,cE n0 h f todo done=some d
 |f,[],done,_,_=>⟨done,by cases f<;>rfl⟩
 |0,_::_,done,_,hf=>by simp at hf
 |f+1,i::todo,done,ht,hf=>by
  simp only[cE]
  rw[List.length_cons] at hf
  by_cases hi:m8 i done=true
  ·rw[if_pos hi]
   exact iA hR f todo done (fun j hj=>ht j (List.mem_cons_of_mem _ hj)) (by omega)
  ·rw[if_neg hi]
   obtain ⟨h1,h2⟩:=ht i List.mem_cons_self
   obtain ⟨blk,hb,hc⟩:=hR i h2 h1
   rw[hb]
   have:=BS n0 i done hi h blk hb
   refine iA hR f _ _ (fun j hj=>?_) (by rw[List.length_append];omega)
   rcases List.mem_append.1 hj with hj|hj
   ·exact ⟨eK _ j hj,hc j hj⟩
   ·exact ht j (List.mem_cons_of_mem _ hj)
theorem FQ {n0:Nat} {h:m0} {R:Nat→Prop} (hR:∀ b,R b→n0≤b→∃ blk,g9 h b=some blk∧∀ i ∈ z0 n0 blk.cells,R i) (l:List Nat) (hl:∀ i ∈ l,n0≤i∧R i):∃ d,pQ n0 h l=some d:=by
 unfold pQ
 split
 ·exact ⟨_,rfl⟩
 ·exact iA hR _ l [] hl (by rw[LL];exact Nat.le_refl _)
theorem nR {n0:Nat} {h:m0} {ord:List Nat}:∀ (l:List Nat),(∀ i ∈ l,∃ b,g9 h i=some b)→∃ bs,bE n0 h ord l=some bs
 | [],_=>⟨[],rfl⟩
 |i::r,hl=>by
  obtain ⟨b,hb⟩:=hl i List.mem_cons_self
  obtain ⟨bs,hbs⟩:=nR (n0:=n0) (ord:=ord) r fun j hj=>hl j (List.mem_cons_of_mem _ hj)
  exact ⟨{b with cells:=R7 (A6 n0 ord) b.cells}::bs,by simp only[bE,hb,hbs,Option.bind_some,Option.map_some]⟩
mutual
theorem pH:∀ (v:Value),s7 0 v= []→∀ n,s7 n v= []
 | .pointer none,_,n=>rfl
 | .pointer (some ⟨b,o,none⟩),_,n=>rfl
 | .pointer (some ⟨b,o,some k⟩),h,n=>by simp[s7,n8] at h
 | .slice none _ _,_,n=>rfl
 | .slice (some ⟨b,o,none⟩) _ _,_,n=>rfl
 | .slice (some ⟨b,o,some k⟩) _ _,h,n=>by simp[s7,n8] at h
 | .func fn ⟨x⟩ ⟨y⟩,h,n=>by
  simp only[s7,List.append_eq_nil_iff] at h ⊢
  exact ⟨aY x h.1 n,aY y h.2 n⟩
 | .iface t v,h,n=>by simp only[s7] at h ⊢;exact pH v h n
 | .agg ⟨l⟩,h,n=>by simp only[s7] at h ⊢;exact aY l h n
 | .tuple ⟨l⟩,h,n=>by simp only[s7] at h ⊢;exact aY l h n
 | .bool _,_,n=>rfl
 | .int _ _,_,n=>rfl
 | .float _ _,_,n=>rfl
 | .complex _ _ _,h,n=>by simp[s7] at h
 | .string _,_,n=>rfl
 | .map _,_,n=>rfl
 | .chan none,_,n=>rfl
 | .chan (some d),h,n=>by simp[s7] at h
 | .nilFunc,_,n=>rfl
 | .nilIface,_,n=>rfl
theorem aY:∀ (l:List Value),z0 0 l= []→∀ n,z0 n l= []
 | [],_,n=>rfl
 |v::r,h,n=>by
  simp only[z0,List.append_eq_nil_iff] at h ⊢
  exact ⟨pH v h.1 n,aY r h.2 n⟩
end
mutual
theorem SX (f:Nat→Nat) (n:Nat):∀ (v:Value) (j:Nat),j ∈ s7 n (P9 f v)→(∃ i ∈ s7 0 v,j=f i)∨(j=n∧∀ m,m ∈ s7 m v)
 | .pointer none,j,h=>by simp[P9,I2,s7,n8] at h
 | .pointer (some ⟨b,o,none⟩),j,h=>by simp[P9,I2,s7,n8] at h
 | .pointer (some ⟨b,o,some k⟩),j,h=>by
  simp only[P9,I2,s7,n8] at h ⊢
  split at h
  ·simp at h;left;exact ⟨b,by simp,h⟩
  ·cases h
 | .slice none _ _,j,h=>by simp[P9,I2,s7,n8] at h
 | .slice (some ⟨b,o,none⟩) _ _,j,h=>by simp[P9,I2,s7,n8] at h
 | .slice (some ⟨b,o,some k⟩) _ _,j,h=>by
  simp only[P9,I2,s7,n8] at h ⊢
  split at h
  ·simp at h;left;exact ⟨b,by simp,h⟩
  ·cases h
 | .func fn ⟨x⟩ ⟨y⟩,j,h=>by
  simp only[P9,s7,List.mem_append] at h ⊢
  rcases h with h|h
  ·rcases cX f n x j h with ⟨i,hi,e⟩|⟨e,hm⟩
   ·exact .inl ⟨i,.inl hi,e⟩
   ·exact .inr ⟨e,fun m=> .inl (hm m)⟩
  ·rcases cX f n y j h with ⟨i,hi,e⟩|⟨e,hm⟩
   ·exact .inl ⟨i,.inr hi,e⟩
   ·exact .inr ⟨e,fun m=> .inr (hm m)⟩
 | .iface t v,j,h=>by simp only[P9,s7] at h ⊢;exact SX f n v j h
 | .agg ⟨l⟩,j,h=>by simp only[P9,s7] at h ⊢;exact cX f n l j h
 | .tuple ⟨l⟩,j,h=>by simp only[P9,s7] at h ⊢;exact cX f n l j h
 | .bool _,j,h=>by simp[P9,s7] at h
 | .int _ _,j,h=>by simp[P9,s7] at h
 | .float _ _,j,h=>by simp[P9,s7] at h
 | .complex _ _ _,j,h=>by
  simp only[P9,s7,List.mem_singleton] at h
  right
  exact ⟨h,fun m=>by simp[s7]⟩
 | .string _,j,h=>by simp[P9,s7] at h
 | .map _,j,h=>by simp[P9,s7] at h
 | .chan none,j,h=>by simp[P9,s7] at h
 | .chan (some d),j,h=>by
  simp only[P9,s7] at h ⊢
  split at h
  ·simp at h;left;exact ⟨d,by simp,h⟩
  ·cases h
 | .nilFunc,j,h=>by simp[P9,s7] at h
 | .nilIface,j,h=>by simp[P9,s7] at h
theorem cX (f:Nat→Nat) (n:Nat):∀ (l:List Value) (j:Nat),j ∈ z0 n (R7 f l)→(∃ i ∈ z0 0 l,j=f i)∨(j=n∧∀ m,m ∈ z0 m l)
 | [],j,h=>by simp[R7,z0] at h
 |v::r,j,h=>by
  simp only[R7,z0,List.mem_append] at h ⊢
  rcases h with h|h
  ·rcases SX f n v j h with ⟨i,hi,e⟩|⟨e,hm⟩
   ·exact .inl ⟨i,.inl hi,e⟩
   ·exact .inr ⟨e,fun m=> .inl (hm m)⟩
  ·rcases cX f n r j h with ⟨i,hi,e⟩|⟨e,hm⟩
   ·exact .inl ⟨i,.inr hi,e⟩
   ·exact .inr ⟨e,fun m=> .inr (hm m)⟩
end
theorem JR {n:Nat}:∀ (l:List Value) (k:Nat) (x:Value),l[k]? =some x→∀ i ∈ s7 n x,i ∈ z0 n l:=by
 intro l
 induction l with
 |nil=>intro k x h;simp at h
 |cons y l ih=>
  intro k x h i hi
  simp only[z0,List.mem_append]
  cases k with
  |zero=>simp at h;subst h;exact .inl hi
  |succ k=>simp at h;exact .inr (ih k x h i hi)
theorem aJ0 {f:Nat→Nat}:∀ (l:List Value) (k:Nat),(R7 f l)[k]? =(l[k]?).map (P9 f):=by
 intro l
 induction l with
 |nil=>intro k;simp[R7]
 |cons x l ih=>intro k;cases k<;>simp[R7,ih]
mutual
theorem aD3 {n:Nat}:∀ (v:Value) (j:Nat),j ∈ s7 0 v→n≤j→j ∈ s7 n v
 | .pointer none,j,h,_=>by simp[s7,n8] at h
 | .pointer (some ⟨b,o,none⟩),j,h,_=>by simp[s7,n8] at h
 | .pointer (some ⟨b,o,some k⟩),j,h,hj=>by
  simp only[s7,n8] at h ⊢
  rw[if_pos (by simp)] at h
  simp at h;subst h
  rw[if_pos (by rw[Nat.ble_eq];exact hj)];simp
 | .slice none _ _,j,h,_=>by simp[s7,n8] at h
 | .slice (some ⟨b,o,none⟩) _ _,j,h,_=>by simp[s7,n8] at h
 | .slice (some ⟨b,o,some k⟩) _ _,j,h,hj=>by
  simp only[s7,n8] at h ⊢
  rw[if_pos (by simp)] at h
  simp at h;subst h
  rw[if_pos (by rw[Nat.ble_eq];exact hj)];simp
 | .func fn ⟨x⟩ ⟨y⟩,j,h,hj=>by
  simp only[s7,List.mem_append] at h ⊢
  exact h.imp (fun h=>jG x j h hj) (fun h=>jG y j h hj)
 | .iface t v,j,h,hj=>by simp only[s7] at h ⊢;exact aD3 v j h hj
 | .agg ⟨l⟩,j,h,hj=>by simp only[s7] at h ⊢;exact jG l j h hj
 | .tuple ⟨l⟩,j,h,hj=>by simp only[s7] at h ⊢;exact jG l j h hj
 | .bool _,j,h,_=>by simp[s7] at h
 | .int _ _,j,h,_=>by simp[s7] at h
 | .float _ _,j,h,_=>by simp[s7] at h
 | .complex _ _ _,j,h,hj=>by simp[s7] at h ⊢;omega
 | .string _,j,h,_=>by simp[s7] at h
 | .map _,j,h,_=>by simp[s7] at h
 | .chan none,j,h,_=>by simp[s7] at h
 | .chan (some d),j,h,hj=>by
  simp only[s7] at h ⊢
  rw[if_pos (by simp)] at h
  simp at h;subst h
  rw[if_pos (by rw[Nat.ble_eq];exact hj)];simp
 | .nilFunc,j,h,_=>by simp[s7] at h
 | .nilIface,j,h,_=>by simp[s7] at h
theorem jG {n:Nat}:∀ (l:List Value) (j:Nat),j ∈ z0 0 l→n≤j→j ∈ z0 n l
 | [],j,h,_=>by simp[z0] at h
 |v::r,j,h,hj=>by
  simp only[z0,List.mem_append] at h ⊢
  exact h.imp (fun h=>aD3 v j h hj) (fun h=>jG r j h hj)
end
mutual
theorem EV {w:VW} {H:D6} {n0:Nat}:∀ {v:V} {vI:Value},d7 w v vI→Cl H v→(∀ o ob,i7 H o=some ob→ob.none=false→∃ b,w.μ o=some b)→∀ i ∈ s7 n0 vI,w.F i∨∃ o ∈ V7 v,w.μ o=some i
 | .sc x,vI,h,_,_,i,hi=>by rw[h.scv,T3 n0 x (by rw[← h.scv];exact h.scv▸h.ok)] at hi;cases hi
 | .sl s n l,vI,h,hc,_,i,hi=> .inl (bA5 (d:= .sl s n l) (by simpa only[d7] using h) (by simpa only[Cl] using hc) i hi)
 | .slk s n c l,vI,h,_,_,i,hi=>by
  simp only[d7] at h
  rcases h with ⟨_,_,⟨⟨b,o,sp⟩,rfl,k,_⟩|⟨_,_,_,_,rfl⟩⟩
  ·cases sp with
   |none=>simp[s7,n8] at hi
   |some sp=>
    simp only[s7,n8] at hi
    split at hi
    ·simp at hi;subst hi;exact .inl k
    ·cases hi
  ·simp[s7,n8] at hi
 | .dp l o,vI,h,_,_,i,hi=>by
  simp only[d7] at h
  obtain ⟨⟨b,k,sp⟩,rfl,hk,_⟩:=h
  cases sp with
  |none=>simp[A7,s7,n8] at hi
  |some sp=>
   simp only[A7,s7,n8] at hi
   split at hi
   ·simp at hi;subst hi;exact .inl hk
   ·cases hi
 | .ref o k n c,vI,h,hc,hm,i,hi=>by
  simp only[d7] at h
  obtain ⟨_,_,b',rfl,q⟩:=h
  simp only[s7,n8] at hi
  split at hi
  ·simp at hi;subst hi
   simp only[Cl] at hc
   obtain ⟨ob,e1,e2⟩:=hc
   obtain ⟨b,hb⟩:=hm o ob e1 e2
   exact .inr ⟨o,by simp[V7],by rw[q b hb];exact hb⟩
  ·cases hi
 | .gr s o n,vI,h,hc,hm,i,hi=>by
  simp only[d7] at h
  rcases h with ⟨_,⟨_,rfl|⟨_,⟨b,o',sp⟩,c,rfl,k⟩⟩|⟨hn,b',rfl,q⟩⟩
  ·simp[s7,n8] at hi
  ·cases sp with
   |none=>simp[s7,n8] at hi
   |some sp=>
    simp only[s7,n8] at hi
    split at hi
    ·simp at hi;subst hi;exact .inl k
    ·cases hi
  ·simp only[s7,n8] at hi
   split at hi
   ·simp at hi;subst hi
    simp only[Cl] at hc
    obtain ⟨t,e,z,l,e1,e2⟩:=hc
    obtain ⟨b,hb⟩:=hm o _ e1 (O1 (fun e0=>hn (e2.2 e0)))
    exact .inr ⟨o,by simp[V7],by rw[q b hb];exact hb⟩
   ·cases hi
 | .ptr o k,vI,h,hc,hm,i,hi=>by
  simp only[d7] at h
  obtain ⟨_,b',rfl,q⟩:=h
  simp only[s7,n8] at hi
  split at hi
  ·simp at hi;subst hi
   simp only[Cl] at hc
   obtain ⟨ob,e1,e2⟩:=hc
   obtain ⟨b,hb⟩:=hm o ob e1 e2
   exact .inr ⟨o,by simp[V7],by rw[q b hb];exact hb⟩
  ·cases hi
 | .agg l,vI,h,hc,hm,i,hi=>by
  simp only[d7] at h
  obtain ⟨vs,rfl,h⟩:=h
  simp only[s7] at hi
  simp only[Cl] at hc
  simp only[V7]
  exact cY h hc hm i hi
 | .tup l,vI,h,hc,hm,i,hi=>by
  simp only[d7] at h
  obtain ⟨vs,rfl,h⟩:=h
  simp only[s7] at hi
  simp only[Cl] at hc
  simp only[V7]
  exact cY h hc hm i hi
 | .fn f a b,vI,h,hc,hm,i,hi=>by
  simp only[d7] at h
  obtain ⟨as,bs,rfl,h1,h2⟩:=h
  simp only[s7,List.mem_append] at hi
  simp only[Cl] at hc
  simp only[V7,List.mem_append]
  rcases hi with hi|hi
  ·rcases cY h1 hc.1 hm i hi with h|⟨o,ho,e⟩
   ·exact .inl h
   ·exact .inr ⟨o,.inl ho,e⟩
  ·rcases cY h2 hc.2 hm i hi with h|⟨o,ho,e⟩
   ·exact .inl h
   ·exact .inr ⟨o,.inr ho,e⟩
 | .ifc t v,vI,h,hc,hm,i,hi=>by
  simp only[d7] at h
  obtain ⟨v',rfl,h⟩:=h
  simp only[s7] at hi
  simp only[Cl] at hc
  simp only[V7]
  exact EV h hc hm i hi
 | .dead,vI,h,hc,hm,i,hi=>by simp only[Cl] at hc
 | .tok _,vI,h,hc,hm,i,hi=>by simp only[Cl] at hc
theorem cY {w:VW} {H:D6} {n0:Nat}:∀ {l:List V} {vs:List Value},f9 w l vs→OB H l→(∀ o ob,i7 H o=some ob→ob.none=false→∃ b,w.μ o=some b)→∀ i ∈ z0 n0 vs,w.F i∨∃ o ∈ fG l,w.μ o=some i
 | [],vs,h,_,_,i,hi=>by simp only[f9] at h;subst h;simp[z0] at hi
 |v::r,vs,h,hc,hm,i,hi=>by
  simp only[f9] at h
  obtain ⟨u,us,rfl,h1,h2⟩:=h
  simp only[z0,List.mem_append] at hi
  simp only[OB] at hc
  simp only[fG,List.mem_append]
  rcases hi with hi|hi
  ·rcases EV h1 hc.1 hm i hi with h|⟨o,ho,e⟩
   ·exact .inl h
   ·exact .inr ⟨o,.inl ho,e⟩
  ·rcases cY h2 hc.2 hm i hi with h|⟨o,ho,e⟩
   ·exact .inl h
   ·exact .inr ⟨o,.inr ho,e⟩
end
mutual
theorem FT {w:VW} {H:D6} {n0:Nat}:∀ {v:V} {vI:Value},d7 w v vI→Cl H v→(∀ o b,w.μ o=some b→n0≤b∧∃ ob,i7 H o=some ob∧ob.none=false)→∀ o ∈ V7 v,∀ b,w.μ o=some b→b ∈ s7 n0 vI
 | .sc x,vI,h,_,_,o,ho,b,hb=>by simp[V7] at ho
 | .sl s n l,vI,h,_,_,o,ho,b,hb=>by simp[V7] at ho
 | .slk s n c l,vI,h,_,_,o,ho,b,hb=>by simp[V7] at ho
 | .dp l o',vI,h,_,_,o,ho,b,hb=>by simp[V7] at ho
 | .ref o' k n c,vI,h,hc,hm,o,ho,b,hb=>by
  simp only[V7,List.mem_singleton] at ho
  subst ho
  simp only[d7] at h
  obtain ⟨_,_,b',rfl,q⟩:=h
  have:=q b hb
  subst this
  simp only[s7,n8]
  rw[if_pos (by rw[Nat.ble_eq];exact (hm o b' hb).1)]
  simp
 | .gr s o' n,vI,h,hc,hm,o,ho,b,hb=>by
  simp only[V7,List.mem_singleton] at ho
  subst ho
  simp only[Cl] at hc
  obtain ⟨t,e,z,l,e1,e2⟩:=hc
  obtain ⟨h1,ob,h2,h3⟩:=hm o b hb
  rw[e1] at h2
  cases h2
  have hl:l ≠ []:=fun e0=>by subst e0;cases h3
  simp only[d7] at h
  rcases h with ⟨_,⟨hn,_⟩|⟨hn,b',rfl,q⟩⟩
  ·exact absurd (e2.1 hn) hl
  ·have:=q b hb
   subst this
   simp only[s7,n8]
   rw[if_pos (by rw[Nat.ble_eq];exact h1)]
   simp
 | .ptr o' k,vI,h,hc,hm,o,ho,b,hb=>by
  simp only[V7,List.mem_singleton] at ho
  subst ho
  simp only[d7] at h
  obtain ⟨_,b',rfl,q⟩:=h
  have:=q b hb
  subst this
  simp only[s7,n8]
  rw[if_pos (by rw[Nat.ble_eq];exact (hm o b' hb).1)]
  simp
 | .agg l,vI,h,hc,hm,o,ho,b,hb=>by
  simp only[d7] at h
  obtain ⟨vs,rfl,h⟩:=h
  simp only[s7]
  simp only[Cl] at hc
  simp only[V7] at ho
  exact dG h hc hm o ho b hb
 | .tup l,vI,h,hc,hm,o,ho,b,hb=>by
  simp only[d7] at h
  obtain ⟨vs,rfl,h⟩:=h
  simp only[s7]
  simp only[Cl] at hc
  simp only[V7] at ho
  exact dG h hc hm o ho b hb
 | .fn f x y,vI,h,hc,hm,o,ho,b,hb=>by
  simp only[d7] at h
  obtain ⟨as,bs,rfl,h1,h2⟩:=h
  simp only[s7,List.mem_append]
  simp only[Cl] at hc
  simp only[V7,List.mem_append] at ho
  exact ho.imp (fun ho=>dG h1 hc.1 hm o ho b hb) (fun ho=>dG h2 hc.2 hm o ho b hb)
 | .ifc t v,vI,h,hc,hm,o,ho,b,hb=>by
  simp only[d7] at h
  obtain ⟨v',rfl,h⟩:=h
  simp only[s7]
  simp only[Cl] at hc
  simp only[V7] at ho
  exact FT h hc hm o ho b hb
 | .dead,vI,h,hc,hm,o,ho,b,hb=>by simp only[Cl] at hc
 | .tok _,vI,h,hc,hm,o,ho,b,hb=>by simp only[Cl] at hc
theorem dG {w:VW} {H:D6} {n0:Nat}:∀ {l:List V} {vs:List Value},f9 w l vs→OB H l→(∀ o b,w.μ o=some b→n0≤b∧∃ ob,i7 H o=some ob∧ob.none=false)→∀ o ∈ fG l,∀ b,w.μ o=some b→b ∈ z0 n0 vs
 | [],vs,h,_,_,o,ho,b,hb=>by simp[fG] at ho
 |v::r,vs,h,hc,hm,o,ho,b,hb=>by
  simp only[f9] at h
  obtain ⟨u,us,rfl,h1,h2⟩:=h
  simp only[z0,List.mem_append]
  simp only[OB] at hc
  simp only[fG,List.mem_append] at ho
  exact ho.imp (fun ho=>FT h1 hc.1 hm o ho b hb) (fun ho=>dG h2 hc.2 hm o ho b hb)
end
theorem DN {E:D9} {h:m0} {a:Addr}:n7 E h a=match a.spot with|none=>E.old a.block a.off|some 0=>(g9 h a.block).bind fun b=>B7 b.cells a.off|some (_+1)=>none:=rfl
def dR (E:D9):Prop:=∀ b o v,E.old b o=some v→s7 0 v= []∨∃ k x y,v= .complex k x y
structure GI (E:D9) (n0:Nat) (h0 hf:m0) (F0 F:Nat→Prop) (ord:List Nat) (bs:List w7):Prop where
 old:dR E
 low:∀ b,b<n0→g9 hf b=g9 h0 b
 f0:∀ b,F0 b→b<n0∧∃ blk,g9 h0 b=some blk∧∀ n,∀ i ∈ z0 n blk.cells,F0 i
 ff:∀ b,F b→b<n0→F0 b
 fc:∀ b,F b→∃ blk,g9 hf b=some blk∧∀ n,∀ i ∈ z0 n blk.cells,F i
 nd:ord.Nodup
 oo:∀ i ∈ ord,n0≤i∧∃ b,g9 hf i=some b∧∀ j ∈ z0 n0 b.cells,j ∈ ord
 pk:bE n0 hf ord ord=some bs
section
variable {E:D9} {n0:Nat} {h0 hf:m0} {F0 F:Nat→Prop} {ord:List Nat} {bs:List w7} {μ:Nat→Option Nat} {nx:Nat}
def F2 (n0:Nat) (F:Nat→Prop) (ord:List Nat) (b:Nat):Prop:=(b<n0∧F b)∨∃ i ∈ ord,F i∧b=A6 n0 ord i
def mu2 (n0:Nat) (ord:List Nat) (μ:Nat→Option Nat) (o:Nat):Option Nat:=(μ o).bind fun b=>if m8 b ord then some (A6 n0 ord b) else none
theorem V0 {i:Nat} (h:i<n0):A6 n0 ord i=i:=by unfold A6;rw[if_pos (by rw[Nat.blt_eq];exact h)]
theorem vZ {i:Nat} (h:n0≤i):A6 n0 ord i=n0+J8 i ord:=by unfold A6;rw[if_neg (by rw[Nat.blt_eq];omega)]
theorem GI.inj (g:GI E n0 h0 hf F0 F ord bs) {i j:Nat} (hi:i ∈ ord) (hj:j ∈ ord) (e:A6 n0 ord i=A6 n0 ord j):i=j:=by
 rw[vZ (g.oo i hi).1,vZ (g.oo j hj).1] at e
 obtain ⟨_,k1⟩:=aZ ord i hi
 obtain ⟨_,k2⟩:=aZ ord j hj
 rw[show J8 i ord=J8 j ord by omega] at k1
 rw[k1] at k2
 exact Option.some.inj k2
theorem GI.get (g:GI E n0 h0 hf F0 F ord bs) {i:Nat} (hi:i ∈ ord):∃ b,g9 hf i=some b∧g9 (w6 h0 n0 bs) (A6 n0 ord i)=some {b with cells:=R7 (A6 n0 ord) b.cells}∧A6 n0 ord i<n0+bs.length∧n0≤A6 n0 ord i:=by
 obtain ⟨k1,k2⟩:=aZ ord i hi
 obtain ⟨p1,p2⟩:=hY ord g.pk
 obtain ⟨b,b1,b2⟩:=p2 _ i k2
 rw[vZ (g.oo i hi).1]
 refine ⟨b,b1,?_,by omega,by omega⟩
 rw[x7,if_pos (by omega),show n0+J8 i ord - n0=J8 i ord by omega]
 exact b2
theorem GI.lowget (g:GI E n0 h0 hf F0 F ord bs) {b:Nat} (h:b<n0):g9 (w6 h0 n0 bs) b=g9 h0 b:=by
 rw[x7,if_neg (by omega)]
abbrev gw (E:D9) (hf:m0) (F:Nat→Prop) (μ:Nat→Option Nat) (nx:Nat):VW:=⟨n7 E hf,F,μ,nx⟩
theorem LK {f:Nat→Nat} {v:Value} (h:s7 0 v= []):P9 f v=v:=iB (n0:=0) (fun i hi=>by omega) v h
def IdO (n0:Nat) (ord:List Nat) (v:Value):Prop:=(∀ i ∈ s7 n0 v,i ∈ ord)∨∃ k x y,v= .complex k x y
theorem GI.cell (g:GI E n0 h0 hf F0 F ord bs) {a:Addr} {v:Value} (hi:a.spot=none∨F a.block) (ha:a.spot=none∨a.block<n0∨a.block ∈ ord) (h:n7 E hf a=some v):
  n7 E (w6 h0 n0 bs) ⟨if a.spot.isSome then A6 n0 ord a.block else a.block,a.off,a.spot⟩=some (P9 (A6 n0 ord) v)∧IdO n0 ord v:=by
 obtain ⟨b,o,sp⟩:=a
 cases sp with
 |none=>
  simp only[n7] at h ⊢
  rcases g.old b o v h with h1|⟨k,x,y,rfl⟩
  ·rw[LK h1]
   exact ⟨h,.inl fun i hi=>by rw[pH v h1 n0] at hi;cases hi⟩
  ·exact ⟨h,.inr ⟨k,x,y,rfl⟩⟩
 |some k=>
  have hF:F b:=by simpa using hi
  obtain rfl:k=0:=by
   cases k with
   |zero=>rfl
   |succ k=>simp[n7] at h
  simp only[n7,Option.isSome_some,if_true] at h ⊢
  have ha:b<n0∨b ∈ ord:=by simpa using ha
  rcases ha with hb|hb
  ·rw[V0 hb,g.lowget hb]
   rw[g.low b hb] at h
   obtain ⟨_,blk,e1,e2⟩:=g.f0 b (g.ff b hF hb)
   rw[e1] at h ⊢
   simp only[Option.bind_some,z8] at h ⊢
   have hv:s7 n0 v= []:=by
    cases hids:s7 n0 v with
    |nil=>rfl
    |cons i r=>
     have h1:i ∈ s7 n0 v:=by rw[hids];simp
     have h2:=(g.f0 i (e2 n0 i (JR _ _ _ h i h1))).1
     have h3:=pK v i h1
     omega
   rw[iB (fun i hi=>V0 hi) v hv]
   exact ⟨h,.inl fun i hi=>by rw[hv] at hi;cases hi⟩
  ·obtain ⟨blk,e1,e2,_⟩:=g.get hb
   rw[e2]
   rw[e1] at h
   simp only[Option.bind_some,z8] at h ⊢
   refine ⟨by rw[aJ0,h];rfl,.inl fun i hi=>?_⟩
   obtain ⟨_,blk',e1',e2'⟩:=g.oo b hb
   rw[e1] at e1'
   cases e1'
   exact e2' i (JR _ _ _ h i hi)
abbrev FS (n0:Nat) (ord:List Nat) (a:Addr):Addr:=⟨if a.spot.isSome then A6 n0 ord a.block else a.block,a.off,a.spot⟩
theorem iT (a:Addr):I2 (A6 n0 ord) (some a)=some (FS n0 ord a):=by
 obtain ⟨b,o,sp⟩:=a
 cases sp<;>rfl
theorem aI8 (a:Addr) (k:Nat):FS n0 ord (A7 a k)=A7 (FS n0 ord a) k:=rfl
theorem aD4 {w:VW} {a:Addr} (h:w.inF a):a.spot=none∨w.F a.block:=by
 unfold VW.inF at h
 split at h
 ·rename_i e;exact .inl e
 ·exact .inr h
theorem GI.inF2 (g:GI E n0 h0 hf F0 F ord bs) {a:Addr} (h:(gw E hf F μ nx).inF a) (ha:a.spot=none∨a.block<n0∨a.block ∈ ord):(gw E (w6 h0 n0 bs) (F2 n0 F ord) (mu2 n0 ord μ) nx).inF (FS n0 ord a):=by
 obtain ⟨b,o,sp⟩:=a
 cases sp with
 |none=>trivial
 |some k=>
  have hF:F b:=h
  have ha:b<n0∨b ∈ ord:=by simpa using ha
  show F2 n0 F ord (A6 n0 ord b)
  rcases ha with hb|hb
  ·rw[V0 hb];exact .inl ⟨hb,hF⟩
  ·exact .inr ⟨b,hb,hF,rfl⟩
theorem nF {a:Addr} {v:Value} (hv:(∃ n c,v= .slice (some a) n c)∨v= .pointer (some a)) (h:IdO n0 ord v):a.spot=none∨a.block<n0∨a.block ∈ ord:=by
 obtain ⟨b,o,sp⟩:=a
 cases sp with
 |none=>exact .inl rfl
 |some k=>
  right
  rcases Nat.lt_or_ge b n0 with hb|hb
  ·exact .inl hb
  ·right
   rcases hv with ⟨n,c,rfl⟩|rfl
   ·rcases h with h|⟨_,_,_,e⟩
    ·exact h b (by simp only[s7,n8];rw[if_pos (by rw[Nat.ble_eq];exact hb)];simp)
    ·cases e
   ·rcases h with h|⟨_,_,_,e⟩
    ·exact h b (by simp only[s7,n8];rw[if_pos (by rw[Nat.ble_eq];exact hb)];simp)
    ·cases e
mutual
theorem GI.rD (g:GI E n0 h0 hf F0 F ord bs):∀ {d:D} {v:Value},A5 (gw E hf F μ nx) d v→IdO n0 ord v→A5 (gw E (w6 h0 n0 bs) (F2 n0 F ord) (mu2 n0 ord μ) nx) d (P9 (A6 n0 ord) v)
 | .sc x,v,h,_=>by
  simp only[A5] at h ⊢
  obtain ⟨rfl,h⟩:=h
  exact ⟨iB (fun i hi=>V0 hi) v (T3 n0 v h),h⟩
 | .sl s n l,v,h,hi=>by
  simp only[A5] at h ⊢
  rcases h with ⟨a,c,rfl,k,kc,kA,ks⟩|⟨h1,h2,h3,h4⟩
  ·left
   have ha:=nF (.inl ⟨n,c,rfl⟩) hi
   refine ⟨FS n0 ord a,c,?_,g.inF2 k ha,kc,g.rA k ha kA,ks⟩
   simp only[P9,iT]
  ·right
   refine ⟨h1,h2,h3,?_⟩
   rcases h4 with rfl|⟨hs,a,b,e,rfl⟩
   ·exact .inl rfl
   ·exact .inr ⟨hs,a,b,e,rfl⟩
theorem GI.rA (g:GI E n0 h0 hf F0 F ord bs):∀ {l:List D} {a:Addr},(gw E hf F μ nx).inF a→(a.spot=none∨a.block<n0∨a.block ∈ ord)→x9 (gw E hf F μ nx) l a→x9 (gw E (w6 h0 n0 bs) (F2 n0 F ord) (mu2 n0 ord μ) nx) l (FS n0 ord a)
 | [],a,_,_,_=>by simp only[x9]
 |d::r,a,i,ha,h=>by
  simp only[x9] at h ⊢
  obtain ⟨⟨v,h1,h2⟩,h3⟩:=h
  obtain ⟨c1,c2⟩:=g.cell (aD4 i) ha h1
  exact ⟨⟨_,c1,g.rD h2 c2⟩,g.rA (a:=A7 a 1) (jH i) ha h3⟩
end
theorem GI.rDL (g:GI E n0 h0 hf F0 F ord bs):∀ {l:List D} {vs:List Value},l6 (gw E hf F μ nx) l vs→(∀ i ∈ z0 n0 vs,i ∈ ord)→l6 (gw E (w6 h0 n0 bs) (F2 n0 F ord) (mu2 n0 ord μ) nx) l (R7 (A6 n0 ord) vs)
 | [],vs,h,_=>by simp only[l6] at h ⊢;subst h;rfl
 |d::r,vs,h,hi=>by
  simp only[l6] at h ⊢
  obtain ⟨v,vs',rfl,h1,h2⟩:=h
  simp only[z0,List.mem_append] at hi
  exact ⟨_,_,rfl,g.rD h1 (.inl fun i h=>hi i (.inl h)),g.rDL h2 fun i h=>hi i (.inr h)⟩
theorem Q4 {o b:Nat} (h:mu2 n0 ord μ o=some b):∃ i,μ o=some i∧i ∈ ord∧b=A6 n0 ord i:=by
 simp only[mu2,Option.bind_eq_some_iff] at h
 obtain ⟨i,h1,h2⟩:=h
 split at h2
 ·rename_i he;cases h2;exact ⟨i,h1,(l8 _ _).1 he,rfl⟩
 ·cases h2
mutual
theorem GI.rV (g:GI E n0 h0 hf F0 F ord bs):∀ {d:V} {v:Value},d7 (gw E hf F μ nx) d v→(∀ i ∈ s7 n0 v,i ∈ ord)→d7 (gw E (w6 h0 n0 bs) (F2 n0 F ord) (mu2 n0 ord μ) nx) d (P9 (A6 n0 ord) v)
 | .sc x,v,h,_=>by
  simp only[d7] at h ⊢
  obtain ⟨rfl,h⟩:=h
  exact ⟨iB (fun i hi=>V0 hi) v (T3 n0 v h),h⟩
 | .sl s n l,v,h,hi=>by simp only[d7] at h ⊢;exact g.rD h (.inl hi)
 | .slk s n c l,v,h,hi=>by
  simp only[d7] at h ⊢
  refine ⟨h.1,h.2.1,?_⟩
  rcases h.2.2 with ⟨a,rfl,k,kA⟩|⟨h1,h2,h3,h4,rfl⟩
  ·left
   have ha:=nF (.inl ⟨n,c,rfl⟩) (.inl hi)
   exact ⟨FS n0 ord a,by simp only[P9,iT],g.inF2 k ha,g.rA k ha kA⟩
  ·exact .inr ⟨h1,h2,h3,h4,rfl⟩
 | .dp l o,v,h,hi=>by
  simp only[d7] at h ⊢
  obtain ⟨a,rfl,k,kA⟩:=h
  have ha:a.spot=none∨a.block<n0∨a.block ∈ ord:=nF (a:=A7 a o) (.inr rfl) (.inl hi)
  exact ⟨FS n0 ord a,by simp only[P9,iT,aI8],g.inF2 k ha,g.rA k ha kA⟩
 | .ref o k n c,v,h,hi=>by
  simp only[d7] at h ⊢
  obtain ⟨h1,h2,b',rfl,q⟩:=h
  refine ⟨h1,h2,A6 n0 ord b',by simp only[P9,I2],fun b hb=>?_⟩
  obtain ⟨i,e1,e2,rfl⟩:=Q4 hb
  rw[q i e1]
 | .gr s o n,v,h,hi=>by
  simp only[d7] at h ⊢
  refine ⟨h.1,?_⟩
  rcases h.2 with ⟨h1,rfl|⟨h2,a,c,rfl,k⟩⟩|⟨h1,b',rfl,q⟩
  ·exact .inl ⟨h1,.inl rfl⟩
  ·have ha:=nF (.inl ⟨0,c,rfl⟩) (.inl hi)
   exact .inl ⟨h1,.inr ⟨h2,FS n0 ord a,c,by simp only[P9,iT],g.inF2 k ha⟩⟩
  ·refine .inr ⟨h1,A6 n0 ord b',by simp only[P9,I2],fun b hb=>?_⟩
   obtain ⟨i,e1,e2,rfl⟩:=Q4 hb
   rw[q i e1]
 | .ptr o k,v,h,hi=>by
  simp only[d7] at h ⊢
  obtain ⟨h1,b',rfl,q⟩:=h
  refine ⟨h1,A6 n0 ord b',by simp only[P9,I2],fun b hb=>?_⟩
  obtain ⟨i,e1,e2,rfl⟩:=Q4 hb
  rw[q i e1]
 | .agg l,v,h,hi=>by
  simp only[d7] at h ⊢
  obtain ⟨vs,rfl,h⟩:=h
  simp only[s7] at hi
  exact ⟨_,by simp only[P9],g.rVL h hi⟩
 | .tup l,v,h,hi=>by
  simp only[d7] at h ⊢
  obtain ⟨vs,rfl,h⟩:=h
  simp only[s7] at hi
  exact ⟨_,by simp only[P9],g.rVL h hi⟩
 | .fn f a b,v,h,hi=>by
  simp only[d7] at h ⊢
  obtain ⟨as,bs',rfl,h1,h2⟩:=h
  simp only[s7,List.mem_append] at hi
  exact ⟨_,_,by simp only[P9],g.rVL h1 fun i h=>hi i (.inl h),g.rVL h2 fun i h=>hi i (.inr h)⟩
 | .ifc t u,v,h,hi=>by
  simp only[d7] at h ⊢
  obtain ⟨v',rfl,h⟩:=h
  simp only[s7] at hi
  exact ⟨_,by simp only[P9],g.rV h hi⟩
 | .dead,v,h,hi=>by simp only[d7]
 | .tok o,v,h,hi=>by
  simp only[d7] at h ⊢
  obtain ⟨h1,b',rfl,q⟩:=h
  refine ⟨h1,A6 n0 ord b',by simp only[P9],fun b hb=>?_⟩
  obtain ⟨i,e1,e2,rfl⟩:=Q4 hb
  rw[q i e1]
theorem GI.rVL (g:GI E n0 h0 hf F0 F ord bs):∀ {l:List V} {vs:List Value},f9 (gw E hf F μ nx) l vs→(∀ i ∈ z0 n0 vs,i ∈ ord)→f9 (gw E (w6 h0 n0 bs) (F2 n0 F ord) (mu2 n0 ord μ) nx) l (R7 (A6 n0 ord) vs)
 | [],vs,h,_=>by simp only[f9] at h ⊢;subst h;rfl
 |d::r,vs,h,hi=>by
  simp only[f9] at h ⊢
  obtain ⟨v,vs',rfl,h1,h2⟩:=h
  simp only[z0,List.mem_append] at hi
  exact ⟨_,_,rfl,g.rV h1 fun i h=>hi i (.inl h),g.rVL h2 fun i h=>hi i (.inr h)⟩
end
theorem bN3 {C:C6} {st:n4} {sf:St} {μ:Nat→Option Nat} {F F0:Nat→Prop} {h0:m0} {v:V} {vI:Value} (h:SR C st sf μ F) (hU:∀ b,b<C.n0→C.U b) (hh:C.h0=h0) (hro:st.ro=0) (hp:sf.prot=C.n0) (hold:dR C.E)
  (hF0:∀ b,F0 b→b<C.n0∧∃ blk,g9 h0 b=some blk∧∀ n,∀ i ∈ z0 n blk.cells,F0 i) (hFF:∀ b,F b→F0 b∨C.n0≤b) (hle:∀ b,F0 b→F b) (hb0:∀ b blk,g9 h0 b=some blk→b<C.n0)
  (hv:d7 (s8 C st sf μ F) v vI) (hR:kJ st.own v):
  ∃ v2 bs μ2 G,gc C.n0 sf.heap vI=some (v2,bs)∧SR C st ⟨w6 h0 C.n0 bs,C.n0+bs.length,C.n0⟩ μ2 G∧d7 (s8 C st ⟨w6 h0 C.n0 bs,C.n0+bs.length,C.n0⟩ μ2 G) v v2∧(∀ b,G b→F0 b∨C.n0≤b)∧(∀ b,F0 b→G b)∧(s7 C.n0 vI= []→bs= []):=by
 have hmu:∀ o b,μ o=some b→C.n0≤b∧∃ ob,i7 st.own o=some ob∧ob.none=false:=fun o b e=>⟨by rw[← hp];exact h.pb o b e (by rw[hro];exact Nat.zero_le _),(h.dom o b e).2.2⟩
 have hlive:∀ o ob,i7 st.own o=some ob→ob.none=false→∃ b,μ o=some b:=fun o ob e hn=>by
  obtain ⟨b,_,m1,_⟩:=h.obj o ob e hn
  exact ⟨b,m1⟩
 have hRc:∀ b,(F b∨∃ o,μ o=some b)→C.n0≤b→∃ blk,g9 sf.heap b=some blk∧∀ i ∈ z0 C.n0 blk.cells,F i∨∃ o,μ o=some i:=by
  rintro b (hb|⟨o,e⟩) _
  ·obtain ⟨blk,c1,c2⟩:=h.cl b hb
   exact ⟨blk,c1,fun i hi=> .inl (c2 _ i hi)⟩
  ·obtain ⟨_,ob,e1,e2⟩:=hmu o b e
   obtain ⟨b',blk,m1,m2,m3⟩:=h.obj o ob e1 e2
   rw[e] at m1;cases m1
   refine ⟨blk,m2,fun i hi=>?_⟩
   cases ob with
   |box t e' l=>
    rcases cY m3.2.2.2 (hR.box o t e' l e1) hlive i hi with hh|⟨o',_,e'⟩
    ·exact .inl hh
    ·exact .inr ⟨o',e'⟩
   |row t e' g' z l=>exact .inl (uP m3.2.2.2 (h.own o _ e1).2 i hi)
   |gro t e' z l=>exact .inl (uP m3.2.2.2 (h.own o _ e1).2 i hi)
 have hroot:∀ i ∈ s7 C.n0 vI,C.n0≤i∧(F i∨∃ o,μ o=some i):=fun i hi=>by
  refine ⟨pK vI i hi,?_⟩
  rcases EV hv hR.cl hlive i hi with hh|⟨o,_,e⟩
  ·exact .inl hh
  ·exact .inr ⟨o,e⟩
 have hord:∃ ord bs,ord.Nodup∧(∀ i ∈ ord,C.n0≤i∧∃ b,g9 sf.heap i=some b∧∀ j ∈ z0 C.n0 b.cells,j ∈ ord)∧bE C.n0 sf.heap ord ord=some bs∧(∀ i ∈ s7 C.n0 vI,i ∈ ord)∧gc C.n0 sf.heap vI=some (P9 (A6 C.n0 ord) vI,bs)∧(s7 C.n0 vI= []→bs= []):=by
  cases hids:s7 C.n0 vI with
  |nil=>
   refine ⟨[],[],List.nodup_nil,(fun i hi=>by cases hi),rfl,(fun i hi=>by cases hi),?_,fun _=>rfl⟩
   unfold gc
   rw[hids,iB (fun i hi=>V0 hi) vI hids]
  |cons x r=>
   obtain ⟨d,hd⟩:=FQ hRc (s7 C.n0 vI) hroot
   obtain ⟨f,hf⟩:=rL hd
   obtain ⟨d1,_,d3,d4⟩:=eO C.n0 sf.heap f _ [] d hf (fun i hi=>pK vI i hi) List.nodup_nil
   have d5:∀ i ∈ d.reverse,C.n0≤i∧∃ b,g9 sf.heap i=some b∧∀ j ∈ z0 C.n0 b.cells,j ∈ d.reverse:=fun i hi=>by
    rcases d4 i (by simpa using hi) with h|⟨h5,b,h6,h7⟩
    ·cases h
    ·exact ⟨h5,b,h6,fun j hj=>by simpa using h7 j hj⟩
   obtain ⟨bs,hbs⟩:=nR (n0:=C.n0) (ord:=d.reverse) d.reverse (fun i hi=>by obtain ⟨_,b,hb,_⟩:=d5 i hi;exact ⟨b,hb⟩)
   refine ⟨d.reverse,bs,by unfold List.Nodup at d1 ⊢;rw[List.pairwise_reverse];exact d1.imp Ne.symm,d5,hbs,fun i hi=>by simpa using d3 i (by rw[hids];exact hi),?_,fun e=>by cases e⟩
   unfold gc
   rw[hids]
   rw[hids] at hd
   simp only[hd,Option.bind_some,hbs,Option.map_some]
 obtain ⟨ord,bs,o1,o2,o3,o4,o5,o6⟩:=hord
 have g:GI C.E C.n0 h0 sf.heap F0 F ord bs:=⟨hold,fun b hb=>by have:=(h.un b (hU b hb)).2;rw[hh] at this;exact this,hF0,fun b hb hlt=>(hFF b hb).resolve_right (by omega),h.cl,o1,o2,o3⟩
 have hreach:∀ o,VR st.own v o→∀ b,μ o=some b→b ∈ ord:=by
  intro o hvr
  induction hvr with
  |root o ho=>exact fun b hb=>o4 b (FT hv hR.cl hmu o ho b hb)
  |box o o1' t e l _ hbox ho ih=>
   intro b hb
   obtain ⟨b1,blk,m1,m2,m3⟩:=h.obj o1' _ hbox rfl
   have hb1:=ih b1 m1
   obtain ⟨_,blk',e1,e2⟩:=o2 b1 hb1
   rw[m2] at e1
   cases e1
   exact e2 b (dG m3.2.2.2 (hR.box o1' t e l hbox) hmu o ho b hb)
 have hin:∀ o b,μ o=some b→b ∈ ord:=fun o b e=>by
  obtain ⟨_,ob,e1,e2⟩:=hmu o b e
  exact hreach o (hR.all o ob e1 e2) b e
 have hmu2:∀ o b,μ o=some b→mu2 C.n0 ord μ o=some (A6 C.n0 ord b):=fun o b e=>by
  simp only[mu2,e,Option.bind_some]
  rw[if_pos ((l8 _ _).2 (hin o b e))]
 have hF2:∀ b,b ∈ ord→(F2 C.n0 F ord (A6 C.n0 ord b)↔F b):=fun b hb=>by
  constructor
  ·rintro (⟨h1,_⟩|⟨i,hi,h1,h2⟩)
   ·have:=(g.get hb);obtain ⟨_,_,_,_,h3⟩:=this;omega
   ·rw[g.inj hb hi h2];exact h1
  ·exact fun hf=> .inr ⟨b,hb,hf,rfl⟩
 refine ⟨P9 (A6 C.n0 ord) vI,bs,mu2 C.n0 ord μ,F2 C.n0 F ord,o5,⟨?_,?_,?_,?_,?_,?_,?_,?_,?_,h.own,?_,?_,?_⟩,g.rV hv o4,?_,?_,o6⟩
 ·intro o ob e hn
  obtain ⟨b,blk,m1,m2,m3⟩:=h.obj o ob e hn
  have hb:=hin o b m1
  obtain ⟨blk',e1,e2,_⟩:=g.get hb
  rw[m2] at e1
  cases e1
  refine ⟨_,_,hmu2 o b m1,e2,?_⟩
  obtain ⟨_,blk2,e1',e2'⟩:=o2 b hb
  rw[m2] at e1'
  cases e1'
  cases ob with
  |box t e' l=>exact ⟨m3.1,m3.2.1,m3.2.2.1,g.rVL m3.2.2.2 e2'⟩
  |row t e' g' z l=>exact ⟨m3.1,m3.2.1,m3.2.2.1,g.rDL m3.2.2.2 e2'⟩
  |gro t e' z l=>exact ⟨m3.1,m3.2.1,m3.2.2.1,g.rDL m3.2.2.2 e2'⟩
 ·intro o ob b e e2 hz
  obtain ⟨i,e3,e4,rfl⟩:=Q4 e2
  obtain ⟨_,_,_,_,h4⟩:=g.get e4
  refine ⟨fun hf=>(h.wr o ob i e e3 hz).1 ((hF2 i e4).1 hf),fun _=>⟨h4,fun hu=>by have:=(h.un _ hu).1;omega⟩⟩
 ·intro o ob b e e2 hz
  obtain ⟨i,e3,e4,rfl⟩:=Q4 e2
  exact (hF2 i e4).2 (h.fz o ob i e e3 hz)
 ·intro o o' b e e'
  obtain ⟨i,e3,e4,rfl⟩:=Q4 e
  obtain ⟨j,e5,e6,e7⟩:=Q4 e'
  rw[← g.inj e4 e6 e7] at e5
  exact h.inj o o' i e3 e5
 ·intro o b e
  obtain ⟨i,e3,e4,rfl⟩:=Q4 e
  obtain ⟨_,_,_,h3,_⟩:=g.get e4
  exact ⟨h3,(h.dom o i e3).2⟩
 ·rintro b (⟨h1,h2⟩|⟨i,hi,h1,rfl⟩)
  ·obtain ⟨_,blk,e1,_⟩:=hF0 b (g.ff b h2 h1)
   exact ⟨by simp only;omega,blk,by simp only;rw[g.lowget h1];exact e1⟩
  ·obtain ⟨_,_,e2,h3,_⟩:=g.get hi
   exact ⟨h3,_,e2⟩
 ·rintro b (⟨h1,h2⟩|⟨i,hi,h1,rfl⟩)
  ·obtain ⟨_,blk,e1,e2⟩:=hF0 b (g.ff b h2 h1)
   refine ⟨blk,by simp only;rw[g.lowget h1];exact e1,fun n j hj=> .inl ⟨(hF0 j (e2 n j hj)).1,hle j (e2 n j hj)⟩⟩
  ·obtain ⟨blk,e1,e2,_⟩:=g.get hi
   obtain ⟨blk',c1,c2⟩:=h.cl i h1
   rw[e1] at c1
   cases c1
   refine ⟨_,e2,fun n j hj=>?_⟩
   rcases cX _ n _ j hj with ⟨k,hk,rfl⟩|⟨_,hm⟩
   ·have hFk:=c2 0 k hk
    rcases Nat.lt_or_ge k C.n0 with hlt|hge
    ·rw[V0 hlt];exact .inl ⟨hlt,hFk⟩
    ·have hkn:k ∈ z0 C.n0 blk.cells:=jG _ k hk hge
     obtain ⟨_,blk2,d1,d2⟩:=o2 i hi
     rw[e1] at d1
     cases d1
     exact .inr ⟨k,d2 k hkn,hFk,rfl⟩
   ·have:=(h.lt _ (c2 sf.next _ (hm sf.next))).1
    omega
 ·intro b hb
  obtain ⟨u1,u2⟩:=h.un b hb
  exact ⟨u1,by simp only;rw[g.lowget u1,hh]⟩
 ·simp only;omega
 ·intro b blk hb
  simp only at hb ⊢
  rw[x7] at hb
  split at hb
  ·omega
  ·have:=hb0 b blk hb;omega
 ·simp only;omega
 ·intro o b e _
  obtain ⟨i,e3,e4,rfl⟩:=Q4 e
  obtain ⟨_,_,_,_,h4⟩:=g.get e4
  exact h4
 ·rintro b (⟨h1,h2⟩|⟨i,hi,h1,rfl⟩)
  ·exact hFF b h2
  ·obtain ⟨_,_,_,_,h4⟩:=g.get hi
   exact .inr h4
 ·exact fun b hb=> .inl ⟨(hF0 b hb).1,hle b hb⟩
end
mutual
def w9:V→Bool
 | .sc _=>true
 | .agg l=>mV l
 | .tup l=>mV l
 | .ifc _ v=>w9 v
 |_=>false
def mV:List V→Bool
 | []=>true
 |v::r=>w9 v && mV r
end
mutual
theorem mW {w:VW}:∀ {v:V} {vI:Value},d7 w v vI→w9 v=true→(∀ n,s7 n vI= [])∧∀ w',d7 w' v vI
 | .sc x,vI,h,_=>by
  have hx:=h.ok
  have:=h.scv
  subst this
  exact ⟨fun n=>T3 n vI hx,fun w'=> .mksc hx⟩
 | .agg l,vI,h,hf=>by
  simp only[d7] at h
  obtain ⟨vs,rfl,h⟩:=h
  obtain ⟨a1,a2⟩:=uC h (by simpa only[w9] using hf)
  exact ⟨fun n=>by simp only[s7];exact a1 n,fun w'=>by simp only[d7];exact ⟨vs,rfl,a2 w'⟩⟩
 | .tup l,vI,h,hf=>by
  simp only[d7] at h
  obtain ⟨vs,rfl,h⟩:=h
  obtain ⟨a1,a2⟩:=uC h (by simpa only[w9] using hf)
  exact ⟨fun n=>by simp only[s7];exact a1 n,fun w'=>by simp only[d7];exact ⟨vs,rfl,a2 w'⟩⟩
 | .sl _ _ _,vI,h,hf=>by simp[w9] at hf
 | .slk _ _ _ _,vI,h,hf=>by simp[w9] at hf
 | .dp _ _,vI,h,hf=>by simp[w9] at hf
 | .ref _ _ _ _,vI,h,hf=>by simp[w9] at hf
 | .gr _ _ _,vI,h,hf=>by simp[w9] at hf
 | .ptr _ _,vI,h,hf=>by simp[w9] at hf
 | .fn _ _ _,vI,h,hf=>by simp[w9] at hf
 | .ifc t v,vI,h,hf=>by
  simp only[d7] at h
  obtain ⟨u,rfl,h⟩:=h
  obtain ⟨a1,a2⟩:=mW h (by simpa only[w9] using hf)
  exact ⟨fun n=>by simp only[s7];exact a1 n,fun w'=>by simp only[d7];exact ⟨u,rfl,a2 w'⟩⟩
 | .dead,vI,h,hf=>by simp[w9] at hf
 | .tok _,vI,h,hf=>by simp[w9] at hf
theorem uC {w:VW}:∀ {l:List V} {vs:List Value},f9 w l vs→mV l=true→(∀ n,z0 n vs= [])∧∀ w',f9 w' l vs
 | [],vs,h,_=>by simp only[f9] at h;subst h;exact ⟨fun n=>rfl,fun w'=>by simp only[f9]⟩
 |v::r,vs,h,hf=>by
  simp only[mV,Bool.and_eq_true] at hf
  simp only[f9] at h
  obtain ⟨u,us,rfl,h1,h2⟩:=h
  obtain ⟨a1,a2⟩:=mW h1 hf.1
  obtain ⟨b1,b2⟩:=uC h2 hf.2
  exact ⟨fun n=>by simp[z0,a1 n,b1 n],fun w'=>by simp only[f9];exact ⟨u,us,rfl,a2 w',b2 w'⟩⟩
end
abbrev YK (E:D9) (h:m0) (F:Nat→Prop):VW:=⟨n7 E h,F,fun _=>none,0⟩
def ClF (h:m0) (n:Nat) (F:Nat→Prop):Prop:=∀ b,F b→b<n∧∃ blk,g9 h b=some blk∧∀ n,∀ i ∈ z0 n blk.cells,F i
def n5 (E:D9) (f:FuncId) (xs:List V) (v:V) (st1:n4):Prop:=
 ∀ (s:St) (F:Nat→Prop) (xsI:List Value),ClF s.heap s.next F→(∀ b blk,g9 s.heap b=some blk→b<s.next)→f9 (YK E s.heap F) xs xsI→
  ∃ vI bs μ G,E.pcall f xsI s=some (vI,bs)∧SR (C1 E s (YK E s.heap F)) st1 ⟨w6 s.heap s.next bs,s.next+bs.length,s.next⟩ μ G∧d7 (s8 (C1 E s (YK E s.heap F)) st1 ⟨w6 s.heap s.next bs,s.next+bs.length,s.next⟩ μ G) v vI∧(∀ b,G b→F b∨s.next≤b)∧(∀ b,F b→G b)∧(w9 v=true→bs= [])
section
variable {C:C6} {st:n4} {s:St} {μ:Nat→Option Nat} {F:Nat→Prop}
theorem SR.env (h:SR C st s μ F) {C':C6} (hE:n7 C'.E=n7 C.E) (hn:C'.n0=C.n0) (hh:C'.h0=C.h0) (hU:C'.U=C.U):SR C' st s μ F:=by
 have hw:s8 C' st s μ F=s8 C st s μ F:=by
  show (⟨n7 C'.E s.heap,F,μ,st.next⟩:VW)=⟨n7 C.E s.heap,F,μ,st.next⟩
  rw[hE]
 refine ⟨fun o ob e hnn=>?_,fun o ob b e1 e2 e3=>?_,h.fz,h.inj,h.dom,h.lt,h.cl,fun b hb=>?_,by rw[hn];exact h.n0,h.own,h.hb,h.pr,h.pb⟩
 ·rw[hw];exact h.obj o ob e hnn
 ·rw[hU];exact h.wr o ob b e1 e2 e3
 ·rw[hU] at hb;rw[hn,hh];exact h.un b hb
theorem SR.start {E:D9} {w0:VW} (hF:ClF s.heap s.next F) (hb:∀ b blk,g9 s.heap b=some blk→b<s.next):SR (C1 E s w0) ⟨[],0,0⟩ ⟨s.heap,s.next,s.next⟩ (fun _=>none) F:=
 ⟨(fun o ob e=>by cases e),(fun o ob b e=>by cases e),(fun o ob b e=>by cases e),(fun o o' b e=>by cases e),(fun o b e=>by cases e),(fun b h=>⟨(hF b h).1,by obtain ⟨blk,h1,_⟩:=(hF b h).2;exact ⟨blk,h1⟩⟩),(fun b h=>(hF b h).2),
  (fun b h=>⟨h,rfl⟩),Nat.le_refl _,(fun o ob e=>by cases e),hb,Nat.le_refl _,(fun o b e=>by cases e)⟩
def T9:Nat→List V→D0
 |_,[]=> []
 |n,v::r=>(n,v)::T9 (n+1) r
theorem dN {w:VW}:∀ {xs:List V} {vs:List Value} (n:Nat),f9 w xs vs→FR w (T9 n xs) (bY n vs)
 | [],vs,n,h=>fun t v e=>by cases e
 |x::r,vs,n,h=>by
  simp only[f9] at h
  obtain ⟨v,vs',rfl,h1,h2⟩:=h
  intro t u e
  simp only[T9] at e
  rw[m7] at e
  simp only[bY]
  rw[H5]
  split at e
  ·rename_i ht
   cases e
   exact ⟨v,by rw[if_pos ht],h1⟩
  ·rename_i ht
   obtain ⟨vI,a,b⟩:=dN (n+1) h2 t u e
   exact ⟨vI,by rw[if_neg ht];exact a,b⟩
def L5 (C:C6) (fr:D0) (st:n4):List (Nat × Option (Option Nat))→Option (List V)
 | []=>some []
 |(t,none)::r=>(i7 fr t).bind fun v=>(L5 C fr st r).map (v::·)
 |(t,some g)::r=>(i7 fr t).bind fun p=>(bP C.E.old st.own g p).bind fun v=>(L5 C fr st r).map (v::·)
def O5:List V→V
 | [v]=>v
 |l=> .tup l
theorem qG (h:SR C st s μ F) {fr:D0} {frI:Fr} (hf:FR (s8 C st s μ F) fr frI):∀ {res:List (Nat × Option (Option Nat))} {vs:List V},L5 C fr st res=some vs→∃ vsI,X4 C.E frI s res=some vsI∧f9 (s8 C st s μ F) vs vsI
 | [],vs,e=>by simp only[L5,Option.some.injEq] at e;subst e;exact ⟨[],rfl,by simp only[f9]⟩
 |(t,none)::r,vs,e=>by
  simp only[L5,Option.bind_eq_some_iff,Option.map_eq_some_iff] at e
  obtain ⟨v,h1,vs',h2,rfl⟩:=e
  obtain ⟨vI,a1,a2⟩:=hf t v h1
  obtain ⟨vsI,b1,b2⟩:=qG h hf h2
  exact ⟨vI::vsI,by simp[X4,a1,b1],by simp only[f9];exact ⟨_,_,rfl,a2,b2⟩⟩
 |(t,some g)::r,vs,e=>by
  simp only[L5,Option.bind_eq_some_iff,Option.map_eq_some_iff] at e
  obtain ⟨p,h1,v,h3,vs',h2,rfl⟩:=e
  obtain ⟨pI,a1,a2⟩:=hf t p h1
  obtain ⟨vI,c1,c2⟩:=xR h.hr a2 h3
  obtain ⟨vsI,b1,b2⟩:=qG h hf h2
  refine ⟨vI::vsI,?_,by simp only[f9];exact ⟨_,_,rfl,c2,b2⟩⟩
  simp only[X4,a1,Option.bind_some]
  split at c1
  ·simp only[c1,Option.bind_some,b1,Option.map_some]
  ·cases c1
theorem YF {w:VW} {vs:List V} {vsI:List Value} (h:f9 w vs vsI):d7 w (O5 vs) (G9 vsI):=by
 rcases vs with _|⟨v,_|⟨u,r⟩⟩
 ·simp only[f9] at h;subst h;simp only[O5,G9,d7,f9];exact ⟨[],rfl,rfl⟩
 ·simp only[f9] at h
  obtain ⟨x,_,rfl,h1,rfl⟩:=h
  exact h1
 ·have h':=h
  simp only[f9] at h
  obtain ⟨x,_,rfl,h1,y,_,rfl,h2,h3⟩:=h
  simp only[O5,G9,d7]
  exact ⟨_,rfl,h'⟩
def oK (C:C6) (res:List (Nat × Option (Option Nat))) (v:V) (st1:n4):A3
 | .exit _,_,_=>False
 |_,fr,st=>∃ vs,L5 C fr st res=some vs∧L2 C [(0,O5 vs)] st [(0,v)] st1
theorem DU {af:p5} {xs:List V} {xsI:List Value} {v:V} {st1:n4} (hlen:xs.length≤af.n) (h:GN C af.code (T9 0 xs) st (oK C af.res v st1)) (hr:Rl C st (T9 0 xs) s (bY 0 xsI)) (hx:xsI.length=xs.length):
  ∃ vI s',body C.E af xsI s=some (vI,s')∧∃ μ F,SR C st1 s' μ F∧d7 (s8 C st1 s' μ F) v vI∧VW.le C.w0 (s8 C st1 s' μ F)∧s'.prot=C.p0∧∀ b,F b→C.w0.F b∨C.p0≤b:=by
 obtain ⟨ex,frI,s',e,fr',st',h1,h2⟩:=cP af.code h (bY 0 xsI) s hr
 have key:(∃ vs,L5 C fr' st' af.res=some vs∧L2 C [(0,O5 vs)] st' [(0,v)] st1)→∃ vI,X4 C.E frI s' af.res=some vI∧∃ μ F,SR C st1 s' μ F∧d7 (s8 C st1 s' μ F) v (G9 vI)∧VW.le C.w0 (s8 C st1 s' μ F)∧s'.prot=C.p0∧∀ b,F b→C.w0.F b∨C.p0≤b:=by
  rintro ⟨vs,hv,hw⟩
  obtain ⟨μ,F,g1,g2,g3,g4,g5⟩:=h1
  obtain ⟨vsI,k1,k2⟩:=qG g1 g2 hv
  have hfr:FR (s8 C st' s' μ F) [(0,O5 vs)] [(0,G9 vsI)]:=fun t u e=>by
   rw[m7] at e
   split at e
   ·rename_i ht
    cases e
    exact ⟨_,by rw[H5,if_pos ht],YF k2⟩
   ·cases e
  obtain ⟨μ',F',q1,q2,q3,q4,q5⟩:=hw s' [(0,G9 vsI)] ⟨μ,F,g1,hfr,g3,g4,g5⟩
  obtain ⟨vI,r1,r2⟩:=q2 0 v (by rw[m7,if_pos rfl])
  rw[H5,if_pos rfl] at r1
  cases r1
  exact ⟨vsI,k1,μ',F',q1,r2,q3,q4,q5⟩
 have fin:(∃ vI,X4 C.E frI s' af.res=some vI∧∃ μ F,SR C st1 s' μ F∧d7 (s8 C st1 s' μ F) v (G9 vI)∧VW.le C.w0 (s8 C st1 s' μ F)∧s'.prot=C.p0∧∀ b,F b→C.w0.F b∨C.p0≤b)→(match ex with| .exit _=>False|_=>True)→
   ∃ vI s',body C.E af xsI s=some (vI,s')∧∃ μ F,SR C st1 s' μ F∧d7 (s8 C st1 s' μ F) v vI∧VW.le C.w0 (s8 C st1 s' μ F)∧s'.prot=C.p0∧∀ b,F b→C.w0.F b∨C.p0≤b:=by
  rintro ⟨vI,k1,k2⟩ hx2
  refine ⟨G9 vI,s',?_,k2⟩
  unfold body
  rw[if_pos (by rw[Nat.ble_eq];omega),e]
  cases ex with
  |exit i=>exact hx2.elim
  |normal=>simp[k1]
  |ret=>simp[k1]
 cases ex with
 |exit i=>exact h2.elim
 |normal=>exact fin (key h2) trivial
 |ret=>exact fin (key h2) trivial
end
section
variable {old:Nat→Nat→Option Value} {rounds:Nat} {fns:FuncId→Option p5} {prims:FuncId→List Value→St→Option (Value × List w7)} {n:Nat} {f:FuncId} {xs:List V} {v:V} {st1:n4} {af:p5}
theorem eA:∀ n,(B6 old rounds fns prims n).old=old
 |0=>rfl
 |n+1=>rfl
theorem cR (n m:Nat):n7 (B6 old rounds fns prims n)=n7 (B6 old rounds fns prims m):=by
 funext h a
 rw[DN,DN,eA,eA]
theorem NP (hf:fns f=some af) (hpu:af.pure=true) (hp:∀ xs s,prims f xs s=none) (hlen:xs.length≤af.n) (hold:dR (B6 old rounds fns prims 0)) (hR:kJ st1.own v) (hro:st1.ro=0)
  (h:∀ C:C6,C.E=B6 old rounds fns prims n→C.w0.nx=0→GN C af.code (T9 0 xs) ⟨[],0,0⟩ (oK C af.res v st1)):n5 (B6 old rounds fns prims (n+1)) f xs v st1:=by
 intro s F xsI hF hb hx
 let C:C6:=C1 (B6 old rounds fns prims n) s (YK (B6 old rounds fns prims n) s.heap F)
 have hs:SR C ⟨[],0,0⟩ ⟨s.heap,s.next,s.next⟩ (fun _=>none) F:=SR.start hF hb
 have hx':f9 (s8 C ⟨[],0,0⟩ ⟨s.heap,s.next,s.next⟩ (fun _=>none) F) xs xsI:=by
  show f9 ⟨n7 (B6 old rounds fns prims n) s.heap,F,fun _=>none,0⟩ xs xsI
  rw[cR n (n+1)];exact hx
 obtain ⟨vI,sf,hbody,μ,G,g1,g2,g3,g4,g5⟩:=DU (C:=C) (s:=⟨s.heap,s.next,s.next⟩) hlen (h C rfl rfl) ⟨_,F,hs,dN 0 hx',VW.le.refl _,rfl,fun b hb=> .inl hb⟩ hx.length
 have hU:∀ b,b<C.n0→C.U b:=fun b hb=>hb
 have hold':dR C.E:=fun b o v e=>by
  refine hold b o v ?_
  have:C.E.old=old:=eA n
  rw[this] at e;exact e
 obtain ⟨v2,bs,μ2,G2,k1,k2,k3,k4,k5,k6⟩:=bN3 g1 hU rfl hro g4 hold' hF g5 g3.F hb g2 hR
 refine ⟨v2,bs,μ2,G2,?_,k2.env (cR _ _) rfl rfl rfl,?_,k4,k5,fun hfl=>k6 ((mW g2 hfl).1 _)⟩
 ·simp only[fT,hp,hf,Option.bind_some,hpu,if_true]
  rw[show body (B6 old rounds fns prims n) af xsI ⟨s.heap,s.next,s.next⟩=some (vI,sf) from hbody]
  exact k1
 ·show d7 ⟨n7 (B6 old rounds fns prims (n+1)) _,G2,μ2,st1.next⟩ v v2
  rw[cR (n+1) n];exact k3
theorem YD {st0:n4} (hf:fns f=some af) (hpu:af.pure=true) (hp:∀ xs s,prims f xs s=none) (hlen:xs.length≤af.n) (hfl:w9 v=true)
  (h:∀ C:C6,C.E=B6 old rounds fns prims n→C.w0.nx=st0.next→∃ st1,GN C af.code (T9 0 xs) ⟨st0.own,st0.next,st0.next⟩ (oK C af.res v st1)):I5 (B6 old rounds fns prims (n+1)) f st0 xs v:=by
 intro s μ F xsI w0 hs hx
 let C:C6:=⟨B6 old rounds fns prims n,s.next,s.heap,(· <s.next),⟨n7 (B6 old rounds fns prims n) s.heap,F,μ,st0.next⟩,s.next⟩
 have hs':SR C ⟨st0.own,st0.next,st0.next⟩ ⟨s.heap,s.next,s.next⟩ μ F:=hs.env (cR _ _) rfl rfl rfl
 obtain ⟨st1,h⟩:=h C rfl rfl
 have hx':f9 (s8 C ⟨st0.own,st0.next,st0.next⟩ ⟨s.heap,s.next,s.next⟩ μ F) xs xsI:=by
  show f9 ⟨n7 (B6 old rounds fns prims n) s.heap,F,μ,st0.next⟩ xs xsI
  rw[cR n (n+1)];exact hx
 obtain ⟨vI,sf,hbody,μ',G,g1,g2,g3,g4,g5⟩:=DU (C:=C) (s:=⟨s.heap,s.next,s.next⟩) hlen h ⟨_,F,hs',dN 0 hx',VW.le.refl _,rfl,fun b hb=> .inl hb⟩ hx.length
 obtain ⟨q1,q2⟩:=mW g2 hfl
 refine ⟨vI,?_,q2⟩
 simp only[fT,hp,hf,Option.bind_some,hpu,if_true]
 rw[show body (B6 old rounds fns prims n) af xsI ⟨s.heap,s.next,s.next⟩=some (vI,sf) from hbody]
 simp only[Option.bind_some]
 unfold gc
 rw[q1]
end
mutual
def B1 (H:D6):V→Option V
 | .sc x=>some (.sc x)
 | .sl s n l=>some (.sl s n l)
 | .slk s n c l=>some (.slk s n c l)
 | .dp l o=>some (.dp l o)
 | .ref o k n c=>(aL H (.ref o k n c)).map dv
 | .gr s o n=>(aL H (.gr s o n)).map dv
 | .agg l=>(Q6 H l).map .agg
 | .tup l=>(Q6 H l).map .tup
 | .fn f a b=>(Q6 H a).bind fun a=>(Q6 H b).map fun b=> .fn f a b
 | .ifc t v=>(B1 H v).map (.ifc t)
 | .ptr _ _=>none
 | .dead=>none
 | .tok _=>none
def Q6 (H:D6):List V→Option (List V)
 | []=>some []
 |v::r=>(B1 H v).bind fun v=>(Q6 H r).map (v::·)
end
mutual
def bS:V→List Nat
 | .ref o _ _ _=> [o]
 | .gr _ o _=> [o]
 | .agg l=>R5 l
 | .tup l=>R5 l
 | .fn _ a b=>R5 a++R5 b
 | .ifc _ v=>bS v
 |_=> []
def R5:List V→List Nat
 | []=> []
 |v::r=>bS v++R5 r
end
mutual
def oH (k:Nat):V→V
 | .ref o i n c=> .ref (k+o) i n c
 | .gr s o n=> .gr s (k+o) n
 | .ptr o i=> .ptr (k+o) i
 | .tok o=> .tok (k+o)
 | .agg l=> .agg (oE k l)
 | .tup l=> .tup (oE k l)
 | .fn f a b=> .fn f (oE k a) (oE k b)
 | .ifc t v=> .ifc t (oH k v)
 |v=>v
def oE (k:Nat):List V→List V
 | []=> []
 |v::r=>oH k v::oE k r
end
def PZ (k:Nat):Obj→Obj
 | .box t e l=> .box t e (oE k l)
 |o=>o
def rP (k:Nat):D6→D6
 | []=> []
 |(j,o)::r=>(k+j,PZ k o)::rP k r
section
variable {C:C6} {st:n4} {s:St} {μ:Nat→Option Nat} {F:Nat→Prop} {E:D9} {H:D6} {heap:m0} {w w':VW}
mutual
theorem A5.sw (h1:w'.ld=w.ld) (h2:w'.F=w.F):∀ {d:D} {v:Value},A5 w d v→A5 w' d v
 | .sc x,v,r=>by simp only[A5] at r ⊢;exact r
 | .sl s n l,v,r=>by
  simp only[A5] at r ⊢
  rcases r with ⟨a,c,e,i,k,r,q⟩|r
  ·exact .inl ⟨a,c,e,by unfold VW.inF at i ⊢;rw[h2];exact i,k,x9.sw h1 h2 r,q⟩
  ·exact .inr r
theorem x9.sw (h1:w'.ld=w.ld) (h2:w'.F=w.F):∀ {l:List D} {a:Addr},x9 w l a→x9 w' l a
 | [],a,_=>by simp only[x9]
 |d::r,a,q=>by
  simp only[x9] at q ⊢
  obtain ⟨⟨v,e1,e2⟩,h3⟩:=q
  exact ⟨⟨v,by rw[h1];exact e1,A5.sw h1 h2 e2⟩,x9.sw h1 h2 h3⟩
end
theorem gT (h2:w'.F=w.F) {a:Addr} (i:w.inF a):w'.inF a:=by unfold VW.inF at i ⊢;rw[h2];exact i
mutual
theorem GD (hr:HR E H heap w) {w1:VW} (hle:VW.le w w1) {w2:VW} (h1:w2.ld=w1.ld) (h2:w2.F=w1.F):∀ {v v':V} {vI:Value},d7 w v vI→B1 H v=some v'→VI w w1 (bS v)→VJ heap w w1 (bS v)→d7 w2 v' vI
 | .sc x,v',vI,h,e,_,_=>by simp only[B1,Option.some.injEq] at e;subst e;simp only[d7] at h ⊢;exact h
 | .sl s n l,v',vI,h,e,_,_=>by
  simp only[B1,Option.some.injEq] at e;subst e
  simp only[d7] at h ⊢
  exact (h.mono hle).sw h1 h2
 | .slk s n c l,v',vI,h,e,_,_=>by
  simp only[B1,Option.some.injEq] at e;subst e
  have:=d7.mono hle h
  simp only[d7] at this ⊢
  refine ⟨this.1,this.2.1,this.2.2.imp ?_ id⟩
  rintro ⟨a,e,i,r⟩
  exact ⟨a,e,gT h2 i,r.sw h1 h2⟩
 | .dp l o,v',vI,h,e,_,_=>by
  simp only[B1,Option.some.injEq] at e;subst e
  have:=d7.mono hle h
  simp only[d7] at this ⊢
  obtain ⟨a,e,i,r⟩:=this
  exact ⟨a,e,gT h2 i,r.sw h1 h2⟩
 | .ref o k n c,v',vI,h,e,hF,hL=>by
  simp only[B1,Option.map_eq_some_iff] at e
  obtain ⟨d,hd,rfl⟩:=e
  exact pA ((QD hr hle h hd hF hL).1.sw h1 h2)
 | .gr s o n,v',vI,h,e,hF,hL=>by
  simp only[B1,Option.map_eq_some_iff] at e
  obtain ⟨d,hd,rfl⟩:=e
  exact pA ((QD hr hle h hd hF hL).1.sw h1 h2)
 | .agg l,v',vI,h,e,hF,hL=>by
  simp only[B1,Option.map_eq_some_iff] at e
  obtain ⟨l',hl,rfl⟩:=e
  simp only[d7] at h ⊢
  obtain ⟨vs,rfl,h⟩:=h
  exact ⟨vs,rfl,dK hr hle h1 h2 h hl hF hL⟩
 | .tup l,v',vI,h,e,hF,hL=>by
  simp only[B1,Option.map_eq_some_iff] at e
  obtain ⟨l',hl,rfl⟩:=e
  simp only[d7] at h ⊢
  obtain ⟨vs,rfl,h⟩:=h
  exact ⟨vs,rfl,dK hr hle h1 h2 h hl hF hL⟩
 | .fn f a b,v',vI,h,e,hF,hL=>by
  simp only[B1,Option.bind_eq_some_iff,Option.map_eq_some_iff] at e
  obtain ⟨a',ha,b',hb,rfl⟩:=e
  simp only[d7] at h ⊢
  obtain ⟨as,bs,rfl,q1,q2⟩:=h
  exact ⟨as,bs,rfl,dK hr hle h1 h2 q1 ha (fun o ho=>hF o (by simp[bS,ho])) (fun o ho=>hL o (by simp[bS,ho])),dK hr hle h1 h2 q2 hb (fun o ho=>hF o (by simp[bS,ho])) (fun o ho=>hL o (by simp[bS,ho]))⟩
 | .ifc t u,v',vI,h,e,hF,hL=>by
  simp only[B1,Option.map_eq_some_iff] at e
  obtain ⟨u',hu,rfl⟩:=e
  simp only[d7] at h ⊢
  obtain ⟨x,rfl,h⟩:=h
  exact ⟨x,rfl,GD hr hle h1 h2 h hu hF hL⟩
 | .ptr _ _,v',vI,h,e,_,_=>by simp[B1] at e
 | .dead,v',vI,h,e,_,_=>by simp[B1] at e
 | .tok _,v',vI,h,e,_,_=>by simp[B1] at e
theorem dK (hr:HR E H heap w) {w1:VW} (hle:VW.le w w1) {w2:VW} (h1:w2.ld=w1.ld) (h2:w2.F=w1.F):∀ {l l':List V} {vs:List Value},f9 w l vs→Q6 H l=some l'→VI w w1 (R5 l)→VJ heap w w1 (R5 l)→f9 w2 l' vs
 | [],l',vs,h,e,_,_=>by simp only[Q6,Option.some.injEq] at e;subst e;simp only[f9] at h ⊢;exact h
 |v::r,l',vs,h,e,hF,hL=>by
  simp only[Q6,Option.bind_eq_some_iff,Option.map_eq_some_iff] at e
  obtain ⟨v',hv,r',hr',rfl⟩:=e
  simp only[f9] at h ⊢
  obtain ⟨u,us,rfl,q1,q2⟩:=h
  exact ⟨u,us,rfl,GD hr hle h1 h2 q1 hv (fun o ho=>hF o (by simp[R5,ho])) (fun o ho=>hL o (by simp[R5,ho])),dK hr hle h1 h2 q2 hr' (fun o ho=>hF o (by simp[R5,ho])) (fun o ho=>hL o (by simp[R5,ho]))⟩
end
theorem UR {v:V} {d:D} (h:aL H v=some d):∀ o ∈ rZ v,∃ ob,i7 H o=some ob∧ob.froz.fz=true:=by
 intro o ho
 cases v with
 |ref o' k n c=>
  simp only[rZ,List.mem_singleton] at ho;subst ho
  simp only[aL] at h
  split at h
  ·rename_i e;exact ⟨_,e,rfl⟩
  ·cases h
 |gr s o' n=>
  simp only[rZ,List.mem_singleton] at ho;subst ho
  simp only[aL] at h
  split at h
  ·rename_i e;exact ⟨_,e,rfl⟩
  ·cases h
 |_=>simp[rZ] at ho
mutual
theorem ME:∀ {v v':V},B1 H v=some v'→∀ o ∈ bS v,∃ ob,i7 H o=some ob∧ob.froz.fz=true
 | .ref o' k n c,v',e,o,ho=>by
  simp only[B1,Option.map_eq_some_iff] at e
  obtain ⟨d,hd,rfl⟩:=e
  exact UR hd o (by simpa [bS,rZ] using ho)
 | .gr s o' n,v',e,o,ho=>by
  simp only[B1,Option.map_eq_some_iff] at e
  obtain ⟨d,hd,rfl⟩:=e
  exact UR hd o (by simpa [bS,rZ] using ho)
 | .agg l,v',e,o,ho=>by
  simp only[B1,Option.map_eq_some_iff] at e
  obtain ⟨l',hl,rfl⟩:=e
  exact aK hl o (by simpa only[bS] using ho)
 | .tup l,v',e,o,ho=>by
  simp only[B1,Option.map_eq_some_iff] at e
  obtain ⟨l',hl,rfl⟩:=e
  exact aK hl o (by simpa only[bS] using ho)
 | .fn f a b,v',e,o,ho=>by
  simp only[B1,Option.bind_eq_some_iff,Option.map_eq_some_iff] at e
  obtain ⟨a',ha,b',hb,rfl⟩:=e
  simp only[bS,List.mem_append] at ho
  rcases ho with ho|ho
  ·exact aK ha o ho
  ·exact aK hb o ho
 | .ifc t u,v',e,o,ho=>by
  simp only[B1,Option.map_eq_some_iff] at e
  obtain ⟨u',hu,rfl⟩:=e
  exact ME hu o (by simpa only[bS] using ho)
 | .sc _,_,_,o,ho=>by simp[bS] at ho
 | .sl _ _ _,_,_,o,ho=>by simp[bS] at ho
 | .slk _ _ _ _,_,_,o,ho=>by simp[bS] at ho
 | .dp _ _,_,_,o,ho=>by simp[bS] at ho
 | .ptr _ _,_,_,o,ho=>by simp[bS] at ho
 | .dead,_,_,o,ho=>by simp[bS] at ho
 | .tok _,_,_,o,ho=>by simp[bS] at ho
theorem aK:∀ {l l':List V},Q6 H l=some l'→∀ o ∈ R5 l,∃ ob,i7 H o=some ob∧ob.froz.fz=true
 | [],_,_,o,ho=>by simp[R5] at ho
 |v::r,l',e,o,ho=>by
  simp only[Q6,Option.bind_eq_some_iff,Option.map_eq_some_iff] at e
  obtain ⟨v',hv,r',hr',rfl⟩:=e
  simp only[R5,List.mem_append] at ho
  rcases ho with ho|ho
  ·exact ME hv o ho
  ·exact aK hr' o ho
end
theorem SR.snaps (h:SR C st s μ F) {xs xs':List V} {xsI:List Value} (hx:f9 (s8 C st s μ F) xs xsI) (hs:Q6 st.own xs=some xs'):ClF s.heap s.next (Y9 μ F (R5 xs))∧f9 (YK C.E s.heap (Y9 μ F (R5 xs))) xs' xsI:=by
 have hle:VW.le (s8 C st s μ F) ⟨n7 C.E s.heap,Y9 μ F (R5 xs),μ,st.next⟩:=⟨fun _ _=>rfl,fun b hb=> .inl hb,Nat.le_refl _,fun _ _ _ e=>e⟩
 refine ⟨fun b hb=>?_,dK (w2:=YK C.E s.heap (Y9 μ F (R5 xs))) h.hr hle rfl rfl hx hs (fun o ho b e=> .inr ⟨o,ho,e⟩) (fun o ho b e k sp blk hb=>iY (E:=C.E) hb)⟩
 rcases hb with hb|⟨o,ho,e⟩
 ·refine ⟨(h.lt b hb).1,?_⟩
  obtain ⟨blk,c1,c2⟩:=h.cl b hb
  exact ⟨blk,c1,fun n i hi=> .inl (c2 n i hi)⟩
 ·refine ⟨(h.dom o b e).1,?_⟩
  obtain ⟨ob,q1,q2⟩:=aK hs o ho
  obtain ⟨blk,c1,c2⟩:=h.row_cl q1 q2 e
  exact ⟨blk,c1,fun n i hi=> .inl (c2 n i hi)⟩
theorem SR.enter (h:SR C st s μ F) (w0:VW):SR (C1 C.E s w0) ⟨st.own,st.next,st.next⟩ ⟨s.heap,s.next,s.next⟩ μ F:=
 ⟨h.obj,fun o ob b e e2 hz=>⟨(h.wr o ob b e e2 hz).1,fun hro=>by have:=(h.own o ob e).1;simp only at hro;omega⟩,h.fz,h.inj,h.dom,h.lt,h.cl,fun b hb=>⟨hb,rfl⟩,Nat.le_refl _,h.own,h.hb,Nat.le_refl _,fun o b e hro=>by have:=(h.dom o b e).2.1;simp only at hro;omega⟩
theorem n5.flat {f:FuncId} {xs xs':List V} {v:V} {st1:n4} (h:n5 E f xs' v st1) (hf:w9 v=true) (hs:Q6 st.own xs=some xs'):I5 E f st xs v:=by
 intro s μ F xsI w0 hsr hx
 obtain ⟨a1,a2⟩:=hsr.snaps hx hs
 obtain ⟨vI,bs,μ2,G,e,_,hv,_,_,hb⟩:=h s _ xsI a1 hsr.hb a2
 rw[hb hf] at e
 exact ⟨vI,e,(mW hv hf).2⟩
theorem a9 {f:FuncId} {xs:List V} {v:V} {Q:V→n4→Prop} (h:I5 C.E f st xs v) (hq:Q v st):eZ C f xs st Q:=by
 refine ⟨v,st,hq,fun s μ F xsI hsr hx hp=>?_⟩
 obtain ⟨vI,e,hv⟩:=h s μ F xsI C.w0 (hsr.enter C.w0) hx
 exact ⟨vI,s,μ,F,by simp only[callI,e];rfl,hsr,hv _,VW.le.refl _,rfl,Nat.le_refl _,fun b hb=> .inl hb⟩
theorem ZJ {f:FuncId} {xs:List V} {v:V} {nx:Nat} {Q:V→List Obj→Prop} (h:I5 C.E f ⟨H,nx,nx⟩ xs v) (hq:Q v []):yP C f xs H nx Q:= .inl ⟨v,h,hq⟩
theorem SR.freeze (h:SR C st s μ F) {fz:List Nat} (hrow:B0 st.ro st.own fz=true):SR C ⟨D1 fz st.own,st.next,st.ro⟩ s μ (Y9 μ F fz)∧VW.le (s8 C st s μ F) (s8 C ⟨D1 fz st.own,st.next,st.ro⟩ s μ (Y9 μ F fz)):=by
 have hle:VW.le (s8 C st s μ F) (s8 C ⟨D1 fz st.own,st.next,st.ro⟩ s μ (Y9 μ F fz)):=⟨fun _ _=>rfl,fun b hb=> .inl hb,Nat.le_refl _,fun _ _ _ e=>e⟩
 have hown:∀ i obj,i7 (D1 fz st.own) i=some obj→∃ ob0,i7 st.own i=some ob0∧obj=if m8 i fz then ob0.froz else ob0:=fun i obj e=>by
  rw[S0] at e
  simp only[Option.map_eq_some_iff] at e
  obtain ⟨ob0,e1,e2⟩:=e
  exact ⟨ob0,e1,e2.symm⟩
 refine ⟨⟨?_,?_,?_,h.inj,?_,?_,?_,h.un,h.n0,?_,h.hb,h.pr,h.pb⟩,hle⟩
 ·intro i obj e hn
  obtain ⟨ob0,e1,rfl⟩:=hown i obj e
  have hn0:ob0.none=false:=by split at hn;(rw[aG] at hn;exact hn);exact hn
  obtain ⟨c,blk0,m1,m2,m3⟩:=h.obj i ob0 e1 hn0
  refine ⟨c,blk0,m1,m2,?_⟩
  split
  ·exact uJ (m3.mono hle)
  ·exact m3.mono hle
 ·intro i obj c e e3 hzz
  obtain ⟨ob0,e1,rfl⟩:=hown i obj e
  by_cases hf:m8 i fz=true
  ·rw[if_pos hf] at hzz
   obtain ⟨ob1,q1,q2,_⟩:=S3 hrow i ((l8 _ _).1 hf)
   rw[e1] at q1;cases q1
   rw[hzz] at q2;cases q2
  ·rw[if_neg hf] at hzz
   obtain ⟨w2,w3⟩:=h.wr i ob0 c e1 e3 hzz
   refine ⟨?_,w3⟩
   rintro (hb|⟨j,hj,ej⟩)
   ·exact w2 hb
   ·have:=h.inj i j c e3 ej
    subst this
    exact hf ((l8 _ _).2 hj)
 ·intro i obj c e e3 hzz
  obtain ⟨ob0,e1,rfl⟩:=hown i obj e
  by_cases hf:m8 i fz=true
  ·exact .inr ⟨i,(l8 _ _).1 hf,e3⟩
  ·rw[if_neg hf] at hzz
   exact .inl (h.fz i ob0 c e1 e3 hzz)
 ·intro i c e
  obtain ⟨d1,d2,ob0,d3,d4⟩:=h.dom i c e
  refine ⟨d1,d2,(if m8 i fz then ob0.froz else ob0),by rw[S0,d3];rfl,?_⟩
  split
  ·rw[aG];exact d4
  ·exact d4
 ·rintro c (hc|⟨i,_,e⟩)
  ·exact h.lt c hc
  ·obtain ⟨d1,_,ob0,d3,d4⟩:=h.dom i c e
   obtain ⟨b',blk0,m1,m2,_⟩:=h.obj i ob0 d3 d4
   rw[e] at m1;cases m1
   exact ⟨d1,blk0,m2⟩
 ·rintro c (hc|⟨i,hi,e⟩)
  ·obtain ⟨blk0,c1,c2⟩:=h.cl c hc
   exact ⟨blk0,c1,fun n j hj=> .inl (c2 n j hj)⟩
  ·obtain ⟨ob0,q1,q2,_⟩:=S3 hrow i hi
   obtain ⟨blk0,c1,c2⟩:=h.row_cl q1 q2 e
   exact ⟨blk0,c1,fun n j hj=> .inl (c2 n j hj)⟩
 ·intro i obj e
  obtain ⟨ob0,e1,rfl⟩:=hown i obj e
  obtain ⟨o1,o2⟩:=h.own i ob0 e1
  refine ⟨o1,?_⟩
  split
  ·rw[ER];exact o2
  ·exact o2
mutual
theorem GL {k:Nat} {w w':VW} (h1:w'.ld=w.ld) (h2:w'.F=w.F) (h3:k+w.nx≤w'.nx) (h4:∀ o b,w'.μ (k+o)=some b→w.μ o=some b):∀ {v:V} {vI:Value},d7 w v vI→d7 w' (oH k v) vI
 | .sc x,vI,h=>by simp only[oH,d7] at h ⊢;exact h
 | .sl s n l,vI,h=>by simp only[oH,d7] at h ⊢;exact h.sw h1 h2
 | .slk s n c l,vI,h=>by
  simp only[oH,d7] at h ⊢
  refine ⟨h.1,h.2.1,h.2.2.imp ?_ id⟩
  rintro ⟨a,e,i,r⟩
  exact ⟨a,e,gT h2 i,r.sw h1 h2⟩
 | .dp l o,vI,h=>by
  simp only[oH,d7] at h ⊢
  obtain ⟨a,e,i,r⟩:=h
  exact ⟨a,e,gT h2 i,r.sw h1 h2⟩
 | .ref o i n c,vI,h=>by
  simp only[oH,d7] at h ⊢
  obtain ⟨q1,q2,b',e,q3⟩:=h
  exact ⟨by omega,q2,b',e,fun b hb=>q3 b (h4 o b hb)⟩
 | .gr s o n,vI,h=>by
  simp only[oH,d7] at h ⊢
  obtain ⟨q1,q2⟩:=h
  refine ⟨by omega,q2.imp (And.imp id (Or.imp id (And.imp id ?_))) ?_⟩
  ·rintro ⟨a,c,e,i⟩
   exact ⟨a,c,e,gT h2 i⟩
  ·rintro ⟨hn,b',e,q3⟩
   exact ⟨hn,b',e,fun b hb=>q3 b (h4 o b hb)⟩
 | .ptr o i,vI,h=>by
  simp only[oH,d7] at h ⊢
  obtain ⟨q1,b',e,q3⟩:=h
  exact ⟨by omega,b',e,fun b hb=>q3 b (h4 o b hb)⟩
 | .agg l,vI,h=>by
  simp only[oH,d7] at h ⊢
  obtain ⟨vs,e,h⟩:=h
  exact ⟨vs,e,dP h1 h2 h3 h4 h⟩
 | .tup l,vI,h=>by
  simp only[oH,d7] at h ⊢
  obtain ⟨vs,e,h⟩:=h
  exact ⟨vs,e,dP h1 h2 h3 h4 h⟩
 | .fn f a b,vI,h=>by
  simp only[oH,d7] at h ⊢
  obtain ⟨as,bs,e,q1,q2⟩:=h
  exact ⟨as,bs,e,dP h1 h2 h3 h4 q1,dP h1 h2 h3 h4 q2⟩
 | .ifc t u,vI,h=>by
  simp only[oH,d7] at h ⊢
  obtain ⟨x,e,h⟩:=h
  exact ⟨x,e,GL h1 h2 h3 h4 h⟩
 | .dead,vI,h=>by simp only[oH,d7]
 | .tok o,vI,h=>by
  simp only[oH,d7] at h ⊢
  obtain ⟨q1,b',e,q3⟩:=h
  exact ⟨by omega,b',e,fun b hb=>q3 b (h4 o b hb)⟩
theorem dP {k:Nat} {w w':VW} (h1:w'.ld=w.ld) (h2:w'.F=w.F) (h3:k+w.nx≤w'.nx) (h4:∀ o b,w'.μ (k+o)=some b→w.μ o=some b):∀ {l:List V} {vs:List Value},f9 w l vs→f9 w' (oE k l) vs
 | [],vs,h=>by simp only[oE,f9] at h ⊢;exact h
 |v::r,vs,h=>by
  simp only[oE,f9] at h ⊢
  obtain ⟨u,us,e,q1,q2⟩:=h
  exact ⟨u,us,e,GL h1 h2 h3 h4 q1,dP h1 h2 h3 h4 q2⟩
end
theorem GB (k:Nat):∀ (H:D6) (o:Nat),i7 (rP k H) (k+o)=(i7 H o).map (PZ k)
 | [],o=>rfl
 |(j,ob)::r,o=>by
  simp only[rP]
  rw[m7,m7,GB k r o]
  by_cases h:o=j
  ·subst h;rw[if_pos rfl,if_pos rfl];rfl
  ·rw[if_neg h,if_neg (by omega)]
theorem GC (k:Nat):∀ (H:D6) (o:Nat),o<k→i7 (rP k H) o=none
 | [],o,_=>rfl
 |(j,ob)::r,o,h=>by
  simp only[rP]
  rw[m7,if_neg (by omega)]
  exact GC k r o h
theorem mI {α:Type}:∀ (a b:List (Nat × α)) (i:Nat),i7 (a++b) i=match i7 a i with|some x=>some x|none=>i7 b i
 | [],b,i=>rfl
 |(j,v)::r,b,i=>by
  simp only[List.cons_append]
  rw[m7,m7]
  split
  ·rfl
  ·exact mI r b i
theorem MC (k:Nat) (o:Obj):(PZ k o).none=o.none:=by
 cases o with
 |gro t e z l=>cases l<;>rfl
 |_=>rfl
theorem aK8 (k:Nat) (o:Obj):(PZ k o).fz=o.fz:=by cases o<;>rfl
theorem bH9 (k:Nat) (o:Obj):(PZ k o).ok=o.ok:=by cases o<;>rfl
theorem SR.join (h:SR C st s μ F) {st1:n4} {bs:List w7} {μ2:Nat→Option Nat} {G:Nat→Prop} {w0:VW} (h1:SR (C1 C.E s w0) st1 ⟨w6 s.heap s.next bs,s.next+bs.length,s.next⟩ μ2 G) (hro:st1.ro=0) (hG:∀ b,G b→F b∨s.next≤b) (hFG:∀ b,F b→G b):
  ∃ μ',SR C ⟨rP st.next st1.own++st.own,st.next+st1.next,st.ro⟩ (s.push bs) μ' G∧VW.le (s8 C st s μ F) (s8 C ⟨rP st.next st1.own++st.own,st.next+st1.next,st.ro⟩ (s.push bs) μ' G)∧
   ∀ {v:V} {vI:Value},d7 (s8 (C1 C.E s w0) st1 ⟨w6 s.heap s.next bs,s.next+bs.length,s.next⟩ μ2 G) v vI→d7 (s8 C ⟨rP st.next st1.own++st.own,st.next+st1.next,st.ro⟩ (s.push bs) μ' G) (oH st.next v) vI:=by
 let μ':Nat→Option Nat:=fun o=>if o<st.next then μ o else μ2 (o - st.next)
 have hlow:∀ o b,o<st.next→μ' o=some b→μ o=some b:=fun o b ho e=>by simp only[μ'] at e;rw[if_pos ho] at e;exact e
 have hhi:∀ o b,μ' (st.next+o)=some b→μ2 o=some b:=fun o b e=>by
  simp only[μ'] at e;rw[if_neg (by omega),show st.next+o - st.next=o by omega] at e;exact e
 have hmu:∀ o b,μ' o=some b→(o<st.next∧μ o=some b∧b<s.next)∨(∃ o1,o=st.next+o1∧μ2 o1=some b∧s.next≤b):=fun o b e=>by
  by_cases ho:o<st.next
  ·exact .inl ⟨ho,hlow o b ho e,(h.dom o b (hlow o b ho e)).1⟩
  ·refine .inr ⟨o - st.next,by omega,?_,?_⟩
   ·exact hhi _ b (by rw[show st.next+(o - st.next)=o by omega];exact e)
   ·exact h1.pb (o - st.next) b (hhi _ b (by rw[show st.next+(o - st.next)=o by omega];exact e)) (by rw[hro];exact Nat.zero_le _)
 have g9:∀ b,b<s.next→g9 (w6 s.heap s.next bs) b=g9 s.heap b:=fun b hb=>by rw[x7,if_neg (by omega)]
 have hFl:∀ b,F b→b<s.next:=fun b hb=>(h.lt b hb).1
 have hle:VW.le (s8 C st s μ F) (s8 C ⟨rP st.next st1.own++st.own,st.next+st1.next,st.ro⟩ (s.push bs) μ' G):=by
  refine ⟨fun a i=>?_,hFG,Nat.le_add_right _ _,fun o b ho e=>hlow o b ho e⟩
  obtain ⟨b,o,sp⟩:=a
  cases sp with
  |none=>rfl
  |some k=>simp only[n7,St.push];rw[g9 b (hFl b i)]
 have hsh:∀ {v:V} {vI:Value},d7 (s8 (C1 C.E s w0) st1 ⟨w6 s.heap s.next bs,s.next+bs.length,s.next⟩ μ2 G) v vI→d7 (s8 C ⟨rP st.next st1.own++st.own,st.next+st1.next,st.ro⟩ (s.push bs) μ' G) (oH st.next v) vI:=
  fun hv=>GL (w':=s8 C ⟨rP st.next st1.own++st.own,st.next+st1.next,st.ro⟩ (s.push bs) μ' G) (k:=st.next) (w:=s8 (C1 C.E s w0) st1 ⟨w6 s.heap s.next bs,s.next+bs.length,s.next⟩ μ2 G) rfl rfl (Nat.le_refl _) hhi hv
 have hown:∀ o ob,i7 (rP st.next st1.own++st.own) o=some ob→(o<st.next∧i7 st.own o=some ob)∨(∃ o1 ob1,o=st.next+o1∧i7 st1.own o1=some ob1∧ob=PZ st.next ob1):=fun o ob e=>by
  rw[mI] at e
  by_cases ho:o<st.next
  ·rw[GC _ _ _ ho] at e;exact .inl ⟨ho,e⟩
  ·have e':o=st.next+(o - st.next):=by omega
   rw[e',GB] at e
   cases ha:i7 st1.own (o - st.next) with
   |none=>
    rw[ha] at e
    simp only[Option.map_none] at e
    rw[← e'] at e
    have:=(h.own o ob e).1
    omega
   |some ob1=>rw[ha] at e;simp only[Option.map_some,Option.some.injEq] at e;exact .inr ⟨_,ob1,e',ha,e.symm⟩
 have hgl:∀ o ob,o<st.next→i7 st.own o=some ob→i7 (rP st.next st1.own++st.own) o=some ob:=fun o ob ho e=>by rw[mI,GC _ _ _ ho];exact e
 have hgh:∀ o ob,i7 st1.own o=some ob→i7 (rP st.next st1.own++st.own) (st.next+o)=some (PZ st.next ob):=fun o ob e=>by rw[mI,GB,e];rfl
 refine ⟨μ',⟨?_,?_,?_,?_,?_,?_,?_,?_,?_,?_,?_,?_,?_⟩,hle,hsh⟩
 ·intro o ob e hn
  rcases hown o ob e with ⟨ho,e1⟩|⟨o1,ob1,rfl,e1,rfl⟩
  ·obtain ⟨b,blk,m1,m2,m3⟩:=h.obj o ob e1 hn
   exact ⟨b,blk,by simp only[μ'];rw[if_pos ho];exact m1,by simp only[St.push];rw[g9 b (h.dom o b m1).1];exact m2,m3.mono hle⟩
  ·rw[MC] at hn
   obtain ⟨b,blk,m1,m2,m3⟩:=h1.obj o1 ob1 e1 hn
   refine ⟨b,blk,by simp only[μ'];rw[if_neg (by omega),show st.next+o1 - st.next=o1 by omega];exact m1,m2,?_⟩
   have hD:∀ {l:List D} {vs:List Value},l6 (s8 (C1 C.E s w0) st1 ⟨w6 s.heap s.next bs,s.next+bs.length,s.next⟩ μ2 G) l vs→l6 (s8 C ⟨rP st.next st1.own++st.own,st.next+st1.next,st.ro⟩ (s.push bs) μ' G) l vs:=by
    intro l vs hl
    exact l6.of hl.length fun i d v q1 q2=>by
     obtain ⟨v',a,b⟩:=hl.get i d q1
     rw[q2] at a;cases a
     exact A5.sw (w:=s8 (C1 C.E s w0) st1 ⟨w6 s.heap s.next bs,s.next+bs.length,s.next⟩ μ2 G) (w':=s8 C ⟨rP st.next st1.own++st.own,st.next+st1.next,st.ro⟩ (s.push bs) μ' G) rfl rfl b
   cases ob1 with
   |box t e' l=>exact ⟨m3.1,m3.2.1,m3.2.2.1,dP (w':=s8 C ⟨rP st.next st1.own++st.own,st.next+st1.next,st.ro⟩ (s.push bs) μ' G) (k:=st.next) (w:=s8 (C1 C.E s w0) st1 ⟨w6 s.heap s.next bs,s.next+bs.length,s.next⟩ μ2 G) rfl rfl (Nat.le_refl _) hhi m3.2.2.2⟩
   |row t e' g z l=>exact ⟨m3.1,m3.2.1,m3.2.2.1,hD m3.2.2.2⟩
   |gro t e' z l=>exact ⟨m3.1,m3.2.1,m3.2.2.1,hD m3.2.2.2⟩
 ·intro o ob b e e2 hz
  rcases hown o ob e with ⟨ho,e1⟩|⟨o1,ob1,rfl,e1,rfl⟩
  ·obtain ⟨q1,q2⟩:=h.wr o ob b e1 (hlow o b ho e2) hz
   refine ⟨fun hb=>?_,q2⟩
   have:=(h.dom o b (hlow o b ho e2)).1
   rcases hG b hb with hb|hb
   ·exact q1 hb
   ·omega
  ·rw[aK8] at hz
   have e3:=hhi o1 b e2
   have hb:=h1.pb o1 b e3 (by rw[hro];exact Nat.zero_le _)
   simp only at hb
   exact ⟨(h1.wr o1 ob1 b e1 e3 hz).1,fun _=>⟨by have:=h.pr;simp only[St.push];omega,fun hu=>by have:=(h.un b hu).1;have:=h.n0;omega⟩⟩
 ·intro o ob b e e2 hz
  rcases hown o ob e with ⟨ho,e1⟩|⟨o1,ob1,rfl,e1,rfl⟩
  ·exact hFG b (h.fz o ob b e1 (hlow o b ho e2) hz)
  ·rw[aK8] at hz
   exact h1.fz o1 ob1 b e1 (hhi o1 b e2) hz
 ·intro o o' b e e'
  rcases hmu o b e with ⟨_,a1,a2⟩|⟨o1,rfl,a1,a2⟩<;>rcases hmu o' b e' with ⟨_,b1,b2⟩|⟨o2,rfl,b1,b2⟩
  ·exact h.inj o o' b a1 b1
  ·omega
  ·omega
  ·rw[h1.inj o1 o2 b a1 b1]
 ·intro o b e
  rcases hmu o b e with ⟨ho,a1,a2⟩|⟨o1,rfl,a1,a2⟩
  ·obtain ⟨d1,d2,ob,d3,d4⟩:=h.dom o b a1
   exact ⟨by simp only[St.push];omega,by simp only;omega,ob,hgl o ob ho d3,d4⟩
  ·obtain ⟨d1,d2,ob,d3,d4⟩:=h1.dom o1 b a1
   exact ⟨d1,by simp only;omega,_,hgh o1 ob d3,by rw[MC];exact d4⟩
 ·exact h1.lt
 ·exact h1.cl
 ·intro b hb
  obtain ⟨u1,u2⟩:=h.un b hb
  exact ⟨u1,by simp only[St.push];rw[g9 b (by have:=h.n0;omega)];exact u2⟩
 ·have:=h.n0;simp only[St.push];omega
 ·intro o ob e
  rcases hown o ob e with ⟨ho,e1⟩|⟨o1,ob1,rfl,e1,rfl⟩
  ·exact ⟨by simp only;omega,(h.own o ob e1).2⟩
  ·obtain ⟨q1,q2⟩:=h1.own o1 ob1 e1
   exact ⟨by simp only;omega,by rw[bH9];exact q2⟩
 ·exact h1.hb
 ·have:=h.pr;simp only[St.push];omega
 ·intro o b e hr
  rcases hmu o b e with ⟨ho,a1,a2⟩|⟨o1,rfl,a1,a2⟩
  ·exact h.pb o b a1 hr
  ·have:=h.pr;simp only[St.push];omega
theorem aQ {f:FuncId} {xs xs':List V} {v:V} {st1:n4} {Q:V→n4→Prop} (h:n5 C.E f xs' v st1) (hs:Q6 st.own xs=some xs') (hrow:B0 st.ro st.own (R5 xs)=true) (hro:st1.ro=0)
  (hq:Q (oH st.next v) ⟨rP st.next st1.own++D1 (R5 xs) st.own,st.next+st1.next,st.ro⟩):eZ C f xs st Q:=by
 refine ⟨_,_,hq,fun s μ F xsI hsr hx hp=>?_⟩
 obtain ⟨a1,a2⟩:=hsr.snaps hx hs
 obtain ⟨vI,bs,μ2,G,e,g1,g2,g3,g4,_⟩:=h s _ xsI a1 hsr.hb a2
 obtain ⟨f1,f2⟩:=hsr.freeze hrow
 obtain ⟨μ',j1,j2,j3⟩:=f1.join g1 hro g3 g4
 refine ⟨vI,s.push bs,μ',G,by simp only[callI,e],j1,j3 g2,f2.trans j2,rfl,by simp[St.push],fun b hb=>?_⟩
 rcases g3 b hb with hb|hb
 ·exact hsr.fin_ge hrow hb
 ·exact .inr (Nat.le_trans hsr.pr hb)
end
mutual
def X9 (ρ:List (Nat × Nat)):V→V
 | .ref o i n c=>match i7 ρ o with|some j=> .ref j i n c|none=> .dead
 | .gr s o n=>match i7 ρ o with|some j=> .gr s j n|none=> .dead
 | .ptr o i=>match i7 ρ o with|some j=> .ptr j i|none=> .dead
 | .tok o=>match i7 ρ o with|some j=> .tok j|none=> .dead
 | .agg l=> .agg (dO ρ l)
 | .tup l=> .tup (dO ρ l)
 | .fn f a b=> .fn f (dO ρ a) (dO ρ b)
 | .ifc t v=> .ifc t (X9 ρ v)
 |v=>v
def dO (ρ:List (Nat × Nat)):List V→List V
 | []=> []
 |v::r=>X9 ρ v::dO ρ r
end
def PS (ρ:List (Nat × Nat)):Obj→Obj
 | .box t e l=> .box t e (dO ρ l)
 |o=>o
def vX (ρ:List (Nat × Nat)):D0→D0
 | []=> []
 |(t,v)::r=>(t,X9 ρ v)::vX ρ r
def vY (ρ:List (Nat × Nat)) (H:D6):List (Nat × Nat)→D6
 | []=> []
 |(i,j)::r=>match i7 H i with
   |some o=>(j,PS ρ o)::vY ρ H r
   |none=>vY ρ H r
def TG (j:Nat):List (Nat × Nat)→Bool
 | []=>true
 |(_,k)::r=> !Nat.beq j k && TG j r
def FM (j:Nat):List (Nat × Nat)→Bool
 | []=>true
 |(k,_)::r=> !Nat.beq j k && FM j r
def BI (base ro k:Nat):List (Nat × Nat)→Bool
 | []=>true
 |(i,j)::r=>TG j r && FM i r && Nat.blt j k && (Nat.ble base j||Nat.beq i j) && (!Nat.ble ro j||Nat.ble ro i) && BI base ro k r
section
variable {C:C6} {st:n4} {s:St} {μ:Nat→Option Nat} {F:Nat→Prop}
theorem vJ {j:Nat}:∀ {r:List (Nat × Nat)},TG j r=true→∀ i,(i,j) ∉ r
 | [],_,i,h=>by cases h
 |(a,b)::r,hn,i,h=>by
  simp only[TG,Bool.and_eq_true,Bool.not_eq_true',vE] at hn
  rcases List.mem_cons.1 h with h|h
  ·cases h;exact hn.1 rfl
  ·exact vJ hn.2 i h
theorem pO {i:Nat}:∀ {r:List (Nat × Nat)},FM i r=true→∀ j,(i,j) ∉ r
 | [],_,j,h=>by cases h
 |(a,b)::r,hn,j,h=>by
  simp only[FM,Bool.and_eq_true,Bool.not_eq_true',vE] at hn
  rcases List.mem_cons.1 h with h|h
  ·cases h;exact hn.1 rfl
  ·exact pO hn.2 j h
theorem Q5 {base ro k:Nat}:∀ {r:List (Nat × Nat)},BI base ro k r=true→∀ i j,(i,j) ∈ r→j<k∧(base≤j∨i=j)∧(ro≤j→ro≤i)∧(∀ i',(i',j) ∈ r→i'=i)∧∀ j',(i,j') ∈ r→j'=j
 | [],_,i,j,h=>by cases h
 |(a,b)::r,hk,i,j,h=>by
  simp only[BI,Bool.and_eq_true,Bool.or_eq_true,Bool.not_eq_true',Nat.blt_eq,Nat.ble_eq] at hk
  obtain ⟨⟨⟨⟨⟨h1,h2⟩,h3⟩,h4⟩,h5⟩,h6⟩:=hk
  have h4':base≤b∨a=b:=h4.imp id j7.1
  have h5':ro≤b→ro≤a:=fun hb=>by
   rcases h5 with h5|h5
   ·have:Nat.ble ro b=true:=by rw[Nat.ble_eq];exact hb
    rw[this] at h5;cases h5
   ·exact h5
  rcases List.mem_cons.1 h with h|h
  ·cases h
   refine ⟨h3,h4',h5',fun i' hi=>?_,fun j' hj=>?_⟩
   ·rcases List.mem_cons.1 hi with hi|hi
    ·cases hi;rfl
    ·exact (vJ h1 i' hi).elim
   ·rcases List.mem_cons.1 hj with hj|hj
    ·cases hj;rfl
    ·exact (pO h2 j' hj).elim
  ·obtain ⟨q1,q2,q3,q4,q5⟩:=Q5 h6 i j h
   refine ⟨q1,q2,q3,fun i' hi=>?_,fun j' hj=>?_⟩
   ·rcases List.mem_cons.1 hi with hi|hi
    ·cases hi;exact (vJ h1 i h).elim
    ·exact q4 i' hi
   ·rcases List.mem_cons.1 hj with hj|hj
    ·cases hj;exact (pO h2 j h).elim
    ·exact q5 j' hj
theorem GV:∀ {r:List (Nat × Nat)} {i j:Nat},i7 r i=some j→(i,j) ∈ r
 | [],i,j,h=>by cases h
 |(a,b)::r,i,j,h=>by
  rw[m7] at h
  split at h
  ·rename_i e;cases h;subst e;exact List.mem_cons_self
  ·exact List.mem_cons_of_mem _ (GV h)
mutual
theorem xT {ρ:List (Nat × Nat)} {w w':VW} (h1:w'.ld=w.ld) (h2:w'.F=w.F) (h3:∀ i j,i7 ρ i=some j→j<w'.nx∧∀ b,w'.μ j=some b→w.μ i=some b):∀ {v:V} {vI:Value},d7 w v vI→d7 w' (X9 ρ v) vI
 | .sc x,vI,h=>by simp only[X9,d7] at h ⊢;exact h
 | .sl s n l,vI,h=>by simp only[X9,d7] at h ⊢;exact h.sw h1 h2
 | .slk s n c l,vI,h=>by
  simp only[X9,d7] at h ⊢
  refine ⟨h.1,h.2.1,h.2.2.imp ?_ id⟩
  rintro ⟨a,e,i,r⟩
  exact ⟨a,e,gT h2 i,r.sw h1 h2⟩
 | .dp l o,vI,h=>by
  simp only[X9,d7] at h ⊢
  obtain ⟨a,e,i,r⟩:=h
  exact ⟨a,e,gT h2 i,r.sw h1 h2⟩
 | .ref o i n c,vI,h=>by
  simp only[X9]
  cases ho:i7 ρ o with
  |none=>simp only[d7]
  |some j=>
   simp only[d7] at h ⊢
   obtain ⟨q1,q2,b',e,q3⟩:=h
   exact ⟨(h3 o j ho).1,q2,b',e,fun b hb=>q3 b ((h3 o j ho).2 b hb)⟩
 | .gr s o n,vI,h=>by
  simp only[X9]
  cases ho:i7 ρ o with
  |none=>simp only[d7]
  |some j=>
   simp only[d7] at h ⊢
   obtain ⟨q1,q2⟩:=h
   refine ⟨(h3 o j ho).1,q2.imp (And.imp id (Or.imp id (And.imp id ?_))) ?_⟩
   ·rintro ⟨a,c,e,i⟩
    exact ⟨a,c,e,gT h2 i⟩
   ·rintro ⟨hn,b',e,q3⟩
    exact ⟨hn,b',e,fun b hb=>q3 b ((h3 o j ho).2 b hb)⟩
 | .ptr o i,vI,h=>by
  simp only[X9]
  cases ho:i7 ρ o with
  |none=>simp only[d7]
  |some j=>
   simp only[d7] at h ⊢
   obtain ⟨q1,b',e,q3⟩:=h
   exact ⟨(h3 o j ho).1,b',e,fun b hb=>q3 b ((h3 o j ho).2 b hb)⟩
 | .agg l,vI,h=>by
  simp only[X9,d7] at h ⊢
  obtain ⟨vs,e,h⟩:=h
  exact ⟨vs,e,aM h1 h2 h3 h⟩
 | .tup l,vI,h=>by
  simp only[X9,d7] at h ⊢
  obtain ⟨vs,e,h⟩:=h
  exact ⟨vs,e,aM h1 h2 h3 h⟩
 | .fn f a b,vI,h=>by
  simp only[X9,d7] at h ⊢
  obtain ⟨as,bs,e,q1,q2⟩:=h
  exact ⟨as,bs,e,aM h1 h2 h3 q1,aM h1 h2 h3 q2⟩
 | .ifc t u,vI,h=>by
  simp only[X9,d7] at h ⊢
  obtain ⟨x,e,h⟩:=h
  exact ⟨x,e,xT h1 h2 h3 h⟩
 | .dead,vI,h=>by simp only[X9,d7]
 | .tok o,vI,h=>by
  simp only[X9]
  cases ho:i7 ρ o with
  |none=>simp only[d7]
  |some j=>
   simp only[d7] at h ⊢
   obtain ⟨q1,b',e,q3⟩:=h
   exact ⟨(h3 o j ho).1,b',e,fun b hb=>q3 b ((h3 o j ho).2 b hb)⟩
theorem aM {ρ:List (Nat × Nat)} {w w':VW} (h1:w'.ld=w.ld) (h2:w'.F=w.F) (h3:∀ i j,i7 ρ i=some j→j<w'.nx∧∀ b,w'.μ j=some b→w.μ i=some b):∀ {l:List V} {vs:List Value},f9 w l vs→f9 w' (dO ρ l) vs
 | [],vs,h=>by simp only[dO,f9] at h ⊢;exact h
 |v::r,vs,h=>by
  simp only[dO,f9] at h ⊢
  obtain ⟨u,us,e,q1,q2⟩:=h
  exact ⟨u,us,e,xT h1 h2 h3 q1,aM h1 h2 h3 q2⟩
end
theorem dF {ρ:List (Nat × Nat)} {H:D6}:∀ (r:List (Nat × Nat)) (j:Nat) (o:Obj),i7 (vY ρ H r) j=some o→∃ i ob,(i,j) ∈ r∧i7 H i=some ob∧o=PS ρ ob
 | [],j,o,h=>by cases h
 |(a,b)::r,j,o,h=>by
  simp only[vY] at h
  split at h
  ·rename_i ob ha
   rw[m7] at h
   split at h
   ·rename_i e;cases h;subst e;exact ⟨a,ob,List.mem_cons_self,ha,rfl⟩
   ·obtain ⟨i,ob',h1,h2⟩:=dF r j o h
    exact ⟨i,ob',List.mem_cons_of_mem _ h1,h2⟩
  ·obtain ⟨i,ob',h1,h2⟩:=dF r j o h
   exact ⟨i,ob',List.mem_cons_of_mem _ h1,h2⟩
theorem LJ {ρ:List (Nat × Nat)} {H:D6}:∀ (r:List (Nat × Nat)) (i j:Nat) (ob:Obj),(i,j) ∈ r→(∀ i',(i',j) ∈ r→i'=i)→i7 H i=some ob→i7 (vY ρ H r) j=some (PS ρ ob)
 | [],i,j,ob,h,_,_=>by cases h
 |(a,b)::r,i,j,ob,h,hu,ho=>by
  simp only[vY]
  by_cases hb:b=j
  ·subst hb
   have:=hu a List.mem_cons_self
   subst this
   rw[ho]
   simp only
   rw[m7,if_pos rfl]
  ·have hr:(i,j) ∈ r:=by
    rcases List.mem_cons.1 h with h|h
    ·cases h;exact absurd rfl hb
    ·exact h
   have ih:=LJ (ρ:=ρ) r i j ob hr (fun i' hi=>hu i' (List.mem_cons_of_mem _ hi)) ho
   split
   ·rw[m7,if_neg (fun e=>hb e.symm)];exact ih
   ·exact ih
theorem BO (ρ:List (Nat × Nat)) (o:Obj):(PS ρ o).none=o.none:=by
 cases o with
 |gro t e z l=>cases l<;>rfl
 |_=>rfl
theorem UH (ρ:List (Nat × Nat)) (o:Obj):(PS ρ o).fz=o.fz:=by cases o<;>rfl
theorem aU0 (ρ:List (Nat × Nat)) (o:Obj):(PS ρ o).ok=o.ok:=by cases o<;>rfl
theorem LI (ρ:List (Nat × Nat)):∀ (fr:D0) (t:Nat),i7 (vX ρ fr) t=(i7 fr t).map (X9 ρ)
 | [],t=>rfl
 |(j,v)::r,t=>by
  simp only[vX]
  rw[m7,m7,LI ρ r t]
  split<;>rfl
theorem xX (ρ:List (Nat × Nat)) (k:Nat) {fr:D0} (hb:C.w0.nx≤k) (hk:BI C.w0.nx st.ro k ρ=true):L2 C fr st (vX ρ fr) ⟨vY ρ st.own ρ,k,st.ro⟩:=by
 rintro s frI ⟨μ,F,h,hf,h3,h4,h5⟩
 let back:Nat→Option Nat:=fun j=>(ρ.find? fun p=>Nat.beq p.2 j).map (·.1)
 let μ':Nat→Option Nat:=fun j=>(back j).bind μ
 have hback:∀ j i,back j=some i→(i,j) ∈ ρ:=fun j i e=>by
  simp only[back,Option.map_eq_some_iff] at e
  obtain ⟨⟨a,b⟩,e1,rfl⟩:=e
  have:=List.find?_some e1
  have hb:=j7.1 this
  simp only at hb
  subst hb
  exact List.mem_of_find?_eq_some e1
 have hmk:∀ i j,(i,j) ∈ ρ→back j=some i:=fun i j hm=>by
  cases e:back j with
  |none=>
   simp only[back,Option.map_eq_none_iff,List.find?_eq_none] at e
   exact absurd (j7.2 rfl) (e (i,j) hm)
  |some i'=>rw[((Q5 hk i j hm).2.2.2.1 i' (hback j i' e))]
 have hmu:∀ j b,μ' j=some b→∃ i,(i,j) ∈ ρ∧μ i=some b:=fun j b e=>by
  simp only[μ',Option.bind_eq_some_iff] at e
  obtain ⟨i,e1,e2⟩:=e
  exact ⟨i,hback j i e1,e2⟩
 have hmu2:∀ i j,(i,j) ∈ ρ→μ' j=μ i:=fun i j hm=>by simp only[μ'];rw[hmk i j hm];rfl
 have g9:∀ i j,i7 ρ i=some j→(i,j) ∈ ρ:=fun i j e=>GV e
 have hv3:∀ i j,i7 ρ i=some j→j<k∧∀ b,μ' j=some b→μ i=some b:=fun i j e=>⟨(Q5 hk i j (g9 i j e)).1,fun b hb=>by rw[← hmu2 i j (g9 i j e)];exact hb⟩
 let w':VW:=⟨n7 C.E s.heap,F,μ',k⟩
 have hrep:∀ {v:V} {vI:Value},d7 (s8 C st s μ F) v vI→d7 w' (X9 ρ v) vI:=fun hv=>xT (w:=s8 C st s μ F) (w':=w') rfl rfl hv3 hv
 have hrepL:∀ {l:List V} {vs:List Value},f9 (s8 C st s μ F) l vs→f9 w' (dO ρ l) vs:=fun hv=>aM (w:=s8 C st s μ F) (w':=w') rfl rfl hv3 hv
 have hD:∀ {l:List D} {vs:List Value},l6 (s8 C st s μ F) l vs→l6 w' l vs:=fun {l vs} hl=>l6.of hl.length fun i d v q1 q2=>by
  obtain ⟨v',a,b⟩:=hl.get i d q1
  rw[q2] at a;cases a
  exact A5.sw (w:=s8 C st s μ F) (w':=w') rfl rfl b
 refine ⟨μ',F,⟨?_,?_,?_,?_,?_,h.lt,h.cl,h.un,h.n0,?_,h.hb,h.pr,?_⟩,?_,⟨h3.ld,h3.F,hb,?_⟩,h4,h5⟩
 ·intro j o e hn
  obtain ⟨i,ob,hm,ho,rfl⟩:=dF ρ j o e
  rw[BO] at hn
  obtain ⟨b,blk,m1,m2,m3⟩:=h.obj i ob ho hn
  refine ⟨b,blk,by rw[hmu2 i j hm];exact m1,m2,?_⟩
  cases ob with
  |box t e' l=>exact ⟨m3.1,m3.2.1,m3.2.2.1,hrepL m3.2.2.2⟩
  |row t e' g z l=>exact ⟨m3.1,m3.2.1,m3.2.2.1,hD m3.2.2.2⟩
  |gro t e' z l=>exact ⟨m3.1,m3.2.1,m3.2.2.1,hD m3.2.2.2⟩
 ·intro j o b e e2 hz
  obtain ⟨i,ob,hm,ho,rfl⟩:=dF ρ j o e
  rw[UH] at hz
  rw[hmu2 i j hm] at e2
  obtain ⟨q1,q2⟩:=h.wr i ob b ho e2 hz
  exact ⟨q1,fun hro=>q2 ((Q5 hk i j hm).2.2.1 hro)⟩
 ·intro j o b e e2 hz
  obtain ⟨i,ob,hm,ho,rfl⟩:=dF ρ j o e
  rw[UH] at hz
  rw[hmu2 i j hm] at e2
  exact h.fz i ob b ho e2 hz
 ·intro j j' b e e'
  obtain ⟨i,hm,e1⟩:=hmu j b e
  obtain ⟨i',hm',e1'⟩:=hmu j' b e'
  have:=h.inj i i' b e1 e1'
  subst this
  exact ((Q5 hk i j hm).2.2.2.2 j' hm').symm
 ·intro j b e
  obtain ⟨i,hm,e1⟩:=hmu j b e
  obtain ⟨d1,d2,ob,d3,d4⟩:=h.dom i b e1
  exact ⟨d1,(Q5 hk i j hm).1,_,LJ ρ i j ob hm (Q5 hk i j hm).2.2.2.1 d3,by rw[BO];exact d4⟩
 ·intro j o e
  obtain ⟨i,ob,hm,ho,rfl⟩:=dF ρ j o e
  exact ⟨(Q5 hk i j hm).1,by rw[aU0];exact (h.own i ob ho).2⟩
 ·intro j b e hro
  obtain ⟨i,hm,e1⟩:=hmu j b e
  exact h.pb i b e1 ((Q5 hk i j hm).2.2.1 hro)
 ·intro t v e
  rw[LI,Option.map_eq_some_iff] at e
  obtain ⟨u,e1,rfl⟩:=e
  obtain ⟨vI,a,b⟩:=hf t u e1
  exact ⟨vI,a,hrep b⟩
 ·intro j b hj e
  obtain ⟨i,hm,e1⟩:=hmu j b e
  have hij:i=j:=by
   rcases (Q5 hk i j hm).2.1 with h'|h'
   ·omega
   ·exact h'
  subst hij
  exact h3.μ i b hj e1
theorem L2.trans {fr fr' fr2:D0} {st' st2:n4} (h:L2 C fr st fr' st') (k:L2 C fr' st' fr2 st2):L2 C fr st fr2 st2:=fun s frI hr=>k s frI (h s frI hr)
theorem NV (fr:D0) (t e:Nat):L2 C fr st fr ⟨(st.next,.gro t e false [])::st.own,st.next+1,st.ro⟩:=by
 rintro s frI ⟨μ,F,h,hf,h3,h4,h5⟩
 have hle:VW.le (s8 C st s μ F) (s8 C ⟨(st.next,.gro t e false [])::st.own,st.next+1,st.ro⟩ s μ F):=⟨fun _ _=>rfl,fun _ h=>h,Nat.le_succ _,fun _ _ _ e=>e⟩
 have hown:∀ i ob,i7 ((st.next,Obj.gro t e false [])::st.own) i=some ob→(i=st.next∧ob= .gro t e false [])∨(i ≠ st.next∧i7 st.own i=some ob):=fun i ob e=>by
  rw[m7] at e
  split at e
  ·rename_i hi;cases e;exact .inl ⟨hi,rfl⟩
  ·rename_i hi;exact .inr ⟨hi,e⟩
 have hne:∀ i b,μ i=some b→i ≠ st.next:=fun i b e=>Nat.ne_of_lt (h.dom i b e).2.1
 refine ⟨μ,F,⟨?_,?_,?_,h.inj,?_,h.lt,h.cl,h.un,h.n0,?_,h.hb,h.pr,h.pb⟩,hf.mono hle,h3.trans hle,h4,h5⟩
 ·intro i ob e hn
  rcases hown i ob e with ⟨rfl,rfl⟩|⟨hi,e1⟩
  ·cases hn
  ·obtain ⟨b,blk,m1,m2,m3⟩:=h.obj i ob e1 hn
   exact ⟨b,blk,m1,m2,m3.mono hle⟩
 ·intro i ob b e e2 hz
  rcases hown i ob e with ⟨rfl,rfl⟩|⟨hi,e1⟩
  ·exact absurd rfl (hne _ b e2)
  ·exact h.wr i ob b e1 e2 hz
 ·intro i ob b e e2 hz
  rcases hown i ob e with ⟨rfl,rfl⟩|⟨hi,e1⟩
  ·exact absurd rfl (hne _ b e2)
  ·exact h.fz i ob b e1 e2 hz
 ·intro i b e
  obtain ⟨d1,d2,ob,d3,d4⟩:=h.dom i b e
  exact ⟨d1,by simp only;omega,ob,by rw[m7,if_neg (hne i b e)];exact d3,d4⟩
 ·intro i ob e
  rcases hown i ob e with ⟨rfl,rfl⟩|⟨hi,e1⟩
  ·exact ⟨by simp,rfl⟩
  ·exact ⟨by have:=(h.own i ob e1).1;simp only;omega,(h.own i ob e1).2⟩
def bX (C:C6) (st:n4) (v v':V):Prop:=∀ s μ F vI,SR C st s μ F→d7 (s8 C st s μ F) v vI→d7 (s8 C st s μ F) v' vI
theorem S6 {fr:D0} {t:Nat} {v v':V} (h:i7 fr t=some v) (hv:bX C st v v'):L2 C fr st (lC fr t v') st:=by
 rintro s frI ⟨μ,F,h1,hf,h3⟩
 refine ⟨μ,F,h1,fun i u e=>?_,h3⟩
 rw[iU] at e
 split at e
 ·rename_i hi
  cases e
  subst hi
  obtain ⟨vI,a,b⟩:=hf _ v h
  exact ⟨vI,a,hv s μ F vI h1 b⟩
 ·exact hf i u e
theorem LY {o t e:Nat} {z:Bool} (h:o<st.next):bX C st (.sc (.slice none 0 0)) (.gr 2 o 0):=fun s μ F vI hs hv=>by
 rw[hv.scv]
 simp only[d7]
 exact ⟨h,.inl ⟨by trivial,.inl (by trivial)⟩⟩
theorem YH {fr:D0} {o t e k:Nat} {l:List V} {v v':V} (h:i7 st.own o=some (.box t e l)) (hk:l[k]? =some v) (hv:bX C st v v'):L2 C fr st fr ⟨B5 st.own o (.box t e (l.set k v')),st.next,st.ro⟩:=by
 rintro s frI ⟨μ,F,h1,hf,h3⟩
 have hown:∀ i ob,i7 (B5 st.own o (.box t e (l.set k v'))) i=some ob→(i=o∧ob= .box t e (l.set k v'))∨(i ≠ o∧i7 st.own i=some ob):=fun i ob e'=>by
  rw[F6 _ _ _ _ _ h] at e'
  split at e'
  ·rename_i hi;cases e';exact .inl ⟨hi,rfl⟩
  ·rename_i hi;exact .inr ⟨hi,e'⟩
 refine ⟨μ,F,⟨?_,?_,?_,h1.inj,?_,h1.lt,h1.cl,h1.un,h1.n0,?_,h1.hb,h1.pr,h1.pb⟩,hf,h3⟩
 ·intro i ob e' hn
  rcases hown i ob e' with ⟨rfl,rfl⟩|⟨hi,e1⟩
  ·obtain ⟨b,blk,m1,m2,m3⟩:=h1.obj i _ h rfl
   refine ⟨b,blk,m1,m2,m3.1,m3.2.1,m3.2.2.1,?_⟩
   refine f9.of (by rw[m3.2.2.2.length];simp) fun j d u q1 q2=>?_
   rw[List.getElem?_set] at q1
   split at q1
   ·rename_i hj
    split at q1
    ·cases q1
     subst hj
     obtain ⟨u',a,b'⟩:=m3.2.2.2.get _ v hk
     rw[q2] at a;cases a
     exact hv s μ F u h1 b'
    ·cases q1
   ·obtain ⟨u',a,b'⟩:=m3.2.2.2.get j d q1
    rw[q2] at a;cases a
    exact b'
  ·exact h1.obj i ob e1 hn
 ·intro i ob b e' e2 hz
  rcases hown i ob e' with ⟨rfl,rfl⟩|⟨hi,e1⟩
  ·exact h1.wr i _ b h e2 rfl
  ·exact h1.wr i ob b e1 e2 hz
 ·intro i ob b e' e2 hz
  rcases hown i ob e' with ⟨rfl,rfl⟩|⟨hi,e1⟩
  ·cases hz
  ·exact h1.fz i ob b e1 e2 hz
 ·intro i b e'
  obtain ⟨d1,d2,ob,d3,d4⟩:=h1.dom i b e'
  by_cases hi:i=o
  ·subst hi;exact ⟨d1,d2,_,by simp only;rw[F6 _ _ _ _ _ h,if_pos rfl],rfl⟩
  ·exact ⟨d1,d2,ob,by simp only;rw[F6 _ _ _ _ _ h,if_neg hi];exact d3,d4⟩
 ·intro i ob e'
  rcases hown i ob e' with ⟨rfl,rfl⟩|⟨hi,e1⟩
  ·exact ⟨(h1.own i _ h).1,rfl⟩
  ·exact h1.own i ob e1
theorem kH {fr:D0} {t:Nat} {v v':V} (h:i7 fr t=some v) (hs:B1 st.own v=some v') (hrow:B0 st.ro st.own (bS v)=true):L2 C fr st (lC fr t v') ⟨D1 (bS v) st.own,st.next,st.ro⟩:=by
 rintro s frI ⟨μ,F,h1,hf,h3,h4,h5⟩
 obtain ⟨f1,f2⟩:=h1.freeze hrow
 refine ⟨μ,_,f1,fun i u e=>?_,h3.trans f2,h4,fun b hb=>?_⟩
 ·rw[iU] at e
  split at e
  ·rename_i hi
   cases e
   subst hi
   obtain ⟨vI,a,b⟩:=hf _ v h
   refine ⟨vI,a,?_⟩
   have:=GD (w2:=YK C.E s.heap (Y9 μ F (bS v))) h1.hr f2 rfl rfl b hs (fun o ho b e=> .inr ⟨o,ho,e⟩) (fun o ho b e k sp blk hb=>iY (E:=C.E) hb)
   refine d7.mono (w:=YK C.E s.heap (Y9 μ F (bS v))) (w':=s8 C ⟨D1 (bS v) st.own,st.next,st.ro⟩ s μ (Y9 μ F (bS v))) ⟨fun _ _=>rfl,fun _ h=>h,Nat.zero_le _,fun o b ho e=>?_⟩ this
   exact absurd ho (Nat.not_lt_zero _)
  ·obtain ⟨vI,a,b⟩:=hf i u e
   exact ⟨vI,a,d7.mono f2 b⟩
 ·rcases h1.fin_ge hrow hb with hb|hb
  ·exact h5 b hb
  ·exact .inr (by rw[← h4];exact hb)
end
def gK (C:C6):List KF→Ex→D0→n4→A3→Prop
 | [],ex,fr,st,P=>P ex fr st
 | .seq b::K,.normal,fr,st,P=>GN C b fr st fun ex fr st=>gK C K ex fr st P
 | .seq _::K,ex,fr,st,P=>gK C K ex fr st P
 | .block id::K,.exit i,fr,st,P=>if i=id then gK C K .normal fr st P else gK C K (.exit i) fr st P
 | .block _::K,ex,fr,st,P=>gK C K ex fr st P
def gC (C:C6) (c:AC) (K:List KF) (fr:D0) (st:n4) (P:A3):Prop:=GN C c fr st fun ex fr st=>gK C K ex fr st P
def gO (C:C6) (l:List j9) (ks:List Nat) (K:List KF) (fr:D0) (st:n4) (P:A3):Prop:=YM C l fr st fun fr st=>gK C K .normal (B9 ks fr) st P
def gS (C:C6) (r:Option (V × n4)) (d:Option Nat) (l:List j9) (ks:List Nat) (K:List KF) (fr:D0) (P:A3):Prop:=
 match r with|some (v,st')=>gO C l ks K (v9 fr d v) st' P|none=>False
def gV (C:C6) (r:VO) (o:K8) (st:n4) (d:Option Nat) (l:List j9) (ks:List Nat) (K:List KF) (fr:D0) (P:A3):Prop:=
 match r with
 |some (v,ob,fz)=>gS C (if B0 st.ro st.own fz then some (v,st.push ob fz) else none) d l ks K fr P
 |none=>gS C (P8 fr st o) d l ks K fr P
def qW (C:C6) (f:FuncId) (xs:Option (List V)) (st:n4) (d:Option Nat) (l:List j9) (ks:List Nat) (K:List KF) (fr:D0) (P:A3):Prop:=
 match xs with|some vs=>eZ C f vs st fun v st'=>gO C l ks K (v9 fr d v) st' P|none=>False
def aB7 (C:C6) (x:Option V) (xs:Option (List V)) (st:n4) (d:Option Nat) (l:List j9) (ks:List Nat) (K:List KF) (fr:D0) (P:A3):Prop:=
 match x,xs with
 |some g,some vs=>(match U2 g vs with|some (f,ws)=>qW C f (some ws) st d l ks K fr P|none=>DZ C g vs st fun v st'=>gO C l ks K (v9 fr d v) st' P)
 |_,_=>False
def AI (C:C6) (ms:List (TypeId × FuncId)) (x:Option V) (xs:Option (List V)) (st:n4) (d:Option Nat) (l:List j9) (ks:List Nat) (K:List KF) (fr:D0) (P:A3):Prop:=
 match x,xs with
 |some g,some vs=>(match eE ms g vs with|some (f,ws)=>qW C f (some ws) st d l ks K fr P|none=>False)
 |_,_=>False
def gG (C:C6) (v:Option V) (want:Bool) (d:Option Nat) (o:K8) (l:List j9) (ks:List Nat) (K:List KF) (fr:D0) (st:n4) (P:A3):Prop:=
 match v with
 |some (.sc (.bool b))=>if b==want then gO C (⟨d,none,o⟩::l) ks K fr st P else gO C l ks K (v9 fr d (.tup [])) st P
 |some (.tup _)=>gO C l ks K (v9 fr d (.tup [])) st P
 |_=>False
def gI (C:C6) (v:Option V) (t e:AC) (K:List KF) (fr:D0) (st:n4) (P:A3):Prop:=
 match v with
 |some (.sc (.bool b))=>if b then gC C t K fr st P else gC C e K fr st P
 |_=>False
def gL (C:C6) (ks:List Nat) (b:AC) (K:List KF) (fr:D0) (st:n4) (P:A3):Prop:=DV C (z9 C.E (.loop ks b)) fr st fun ex fr st=>gK C K ex fr st P
def gP (C:C6) (l:List j9) (hid:List (List Bool)) (vds:List (Nat × Nat)) (tail:List j9) (ks:List Nat) (K:List KF) (fr:D0) (st:n4) (P:A3):Prop:=
 YJ C l hid vds fr st fun fr st=>gO C tail ks K fr st P
def gPV (C:C6) (r:VO) (d:Option Nat) (l:List j9) (hid:List (List Bool)) (vds:List (Nat × Nat)) (tail:List j9) (ks:List Nat) (K:List KF) (fr:D0) (st:n4) (P:A3):Prop:=
 match r with
 |some (v,ob,fz)=>if fz.isEmpty then gP C l hid ((st.next,ob.toList.length)::vds) tail ks K (v9 fr d v) (st.pushL ob.toList) P else False
 |none=>False
def gPC (C:C6) (f:FuncId) (xs:Option (List V)) (H:D6) (d:Option Nat) (l:List j9) (hid:List (List Bool)) (vds:List (Nat × Nat)) (tail:List j9) (ks:List Nat) (K:List KF) (fr:D0) (st:n4) (P:A3):Prop:=
 match xs with|some vs=>yP C f vs H st.next (fun v obs=>gP C l hid ((st.next,obs.length)::vds) tail ks K (v9 fr d v) (st.pushL obs) P)|none=>False
def SK (C:C6) (x:Option V) (xs:Option (List V)) (H:D6) (d:Option Nat) (l:List j9) (hid:List (List Bool)) (vds:List (Nat × Nat)) (tail:List j9) (ks:List Nat) (K:List KF) (fr:D0) (st:n4) (P:A3):Prop:=
 match x,xs with
 |some g,some vs=>(match U2 g vs with|some (f,ws)=>gPC C f (some ws) H d l hid vds tail ks K fr st P|none=>False)
 |_,_=>False
def SL (C:C6) (v:Option V) (want:Bool) (t:Nat) (d:Option Nat) (o:K8) (l:List j9) (hid:List (List Bool)) (vds:List (Nat × Nat)) (tail:List j9) (ks:List Nat) (K:List KF) (fr:D0) (st:n4) (P:A3):Prop:=
 match v with
 |some (.sc (.bool b))=>if b==want then GO C (B9 (a8 (b8 o)++ [t]) fr) (N4 st.own vds (hid.headD [])) st o (fun v obs=>gP C l hid.tail ((st.next,obs.length)::vds) tail ks K (v9 fr d v) (st.pushL obs) P)
   else gP C l hid.tail ((st.next,0)::vds) tail ks K (v9 fr d (.tup [])) st P
 |some (.tup _)=>gP C l hid.tail ((st.next,0)::vds) tail ks K (v9 fr d (.tup [])) st P
 |_=>False
def sJ:K8→Bool
 | .callF _ _=>false
 | .callV _ _=>false
 | .callI _ _ _=>false
 |_=>true
section
variable {C:C6} {K:List KF} {fr:D0} {st:n4} {P:A3}
theorem aC3 (ex:Ex):gK C [] ex fr st P=P ex fr st:=(rfl)
theorem aC4 (b:AC):gK C (.seq b::K) .normal fr st P=gC C b K fr st P:=(rfl)
theorem qX (b:AC) (i:Nat):gK C (.seq b::K) (.exit i) fr st P=gK C K (.exit i) fr st P:=(rfl)
theorem uN (b:AC):gK C (.seq b::K) .ret fr st P=gK C K .ret fr st P:=(rfl)
theorem fD (i:Nat):gK C (.block i::K) .normal fr st P=gK C K .normal fr st P:=(rfl)
theorem kO (i j:Nat):gK C (.block i::K) (.exit j) fr st P=if j=i then gK C K .normal fr st P else gK C K (.exit j) fr st P:=(rfl)
theorem mZ (i:Nat):gK C (.block i::K) .ret fr st P=gK C K .ret fr st P:=(rfl)
theorem SC:gC C .skip K fr st P=gK C K .normal fr st P:=(rfl)
theorem aB5:gC C .ret K fr st P=gK C K .ret fr st P:=(rfl)
theorem SA (i:Nat):gC C (.exit i) K fr st P=gK C K (.exit i) fr st P:=(rfl)
theorem aB6 (a b:AC):gC C (.seq a b) K fr st P=gC C a (.seq b::K) fr st P:=by
 unfold gC
 simp only[GN]
 congr 1
 funext ex f t
 cases ex<;>rfl
theorem IZ (i:Nat) (a:AC):gC C (.block i a) K fr st P=gC C a (.block i::K) fr st P:=by
 unfold gC
 simp only[GN]
 congr 1
 funext ex f t
 cases ex<;>rfl
theorem aB4 (l:List j9) (ks:List Nat):gC C (.ops l ks) K fr st P=gO C l ks K fr st P:=(rfl)
theorem RY (c:Operand) (t e:AC):gC C (.cond c t e) K fr st P=gI C (p7 fr c) t e K fr st P:=by
 unfold gC gI
 simp only[GN]
 rfl
theorem ES (t e:AC):gI C (some (.sc (.bool true))) t e K fr st P=gC C t K fr st P:=(rfl)
theorem uM (t e:AC):gI C (some (.sc (.bool false))) t e K fr st P=gC C e K fr st P:=(rfl)
theorem SB (ks:List Nat) (b:AC):gC C (.loop ks b) K fr st P=gL C ks b K fr st P:=(rfl)
theorem RZ (pre tail:List j9) (hid:List (List Bool)) (ks:List Nat):gC C (.draw pre tail hid ks) K fr st P=gP C pre hid [] tail ks K fr st P:=(rfl)
theorem aC5 (ks:List Nat):gO C [] ks K fr st P=gK C K .normal (B9 ks fr) st P:=(rfl)
theorem JE (d:Option Nat) (f:FuncId) (xs:List Operand) (l:List j9) (ks:List Nat):gO C (⟨d,none,.callF f xs⟩::l) ks K fr st P=qW C f (T7 fr xs) st d l ks K fr P:=(rfl)
theorem JG (d:Option Nat) (x:Operand) (xs:List Operand) (l:List j9) (ks:List Nat):gO C (⟨d,none,.callV x xs⟩::l) ks K fr st P=aB7 C (p7 fr x) (T7 fr xs) st d l ks K fr P:=by
 unfold gO aB7
 simp only[YM,mC]
 cases p7 fr x with
 |none=>rfl
 |some g=>cases T7 fr xs with
  |none=>rfl
  |some vs=>simp only;cases U2 g vs<;>rfl
theorem JF (d:Option Nat) (ms:List (TypeId × FuncId)) (x:Operand) (xs:List Operand) (l:List j9) (ks:List Nat):gO C (⟨d,none,.callI ms x xs⟩::l) ks K fr st P=AI C ms (p7 fr x) (T7 fr xs) st d l ks K fr P:=by
 unfold gO AI
 simp only[YM,mC]
 cases p7 fr x with
 |none=>rfl
 |some g=>cases T7 fr xs with
  |none=>rfl
  |some vs=>simp only;cases eE ms g vs<;>rfl
theorem SJ (d:Option Nat) (o:K8) (ho:sJ o=true) (l:List j9) (ks:List Nat):gO C (⟨d,none,o⟩::l) ks K fr st P=gV C (i6 C.E.old fr st.own st.next o) o st d l ks K fr P:=by
 unfold gO gV gS
 simp only[YM]
 have:∀ Q,mC C fr st o Q=match NQ C.E.old fr st o with|some (v,st')=>Q v st'|none=>False:=by
  intro Q
  cases o<;>first|rfl|cases ho
 rw[this]
 unfold NQ
 cases i6 C.E.old fr st.own st.next o with
 |none=>rfl
 |some r=>
  obtain ⟨v,ob,fz⟩:=r
  rfl
theorem JH (d:Option Nat) (t:Nat) (want:Bool) (o:K8) (l:List j9) (ks:List Nat):gO C (⟨d,some (t,want),o⟩::l) ks K fr st P=gG C (i7 fr t) want d o l ks K fr st P:=(rfl)
theorem aC2 (b:Bool) (d:Option Nat) (o:K8) (l:List j9) (ks:List Nat):gG C (some (.sc (.bool b))) b d o l ks K fr st P=gO C (⟨d,none,o⟩::l) ks K fr st P:=by simp[gG]
theorem bA3 (d:Option Nat) (o:K8) (l:List j9) (ks:List Nat):gG C (some (.sc (.bool true))) false d o l ks K fr st P=gO C l ks K (v9 fr d (.tup [])) st P:=(rfl)
theorem bA2 (d:Option Nat) (o:K8) (l:List j9) (ks:List Nat):gG C (some (.sc (.bool false))) true d o l ks K fr st P=gO C l ks K (v9 fr d (.tup [])) st P:=(rfl)
theorem aC1 (a:List V) (want:Bool) (d:Option Nat) (o:K8) (l:List j9) (ks:List Nat):gG C (some (.tup a)) want d o l ks K fr st P=gO C l ks K (v9 fr d (.tup [])) st P:=(rfl)
theorem XC (st:n4):st.push none []=st:=by simp[n4.push,s5]
theorem SV (v:V) (o:K8) (d:Option Nat) (l:List j9) (ks:List Nat):gV C (some (v,none,[])) o st d l ks K fr P=gO C l ks K (v9 fr d v) st P:=by
 unfold gV gS
 simp only[B0,if_true,XC]
theorem aC9 (v:V) (ob:Obj) (o:K8) (d:Option Nat) (l:List j9) (ks:List Nat):gV C (some (v,some ob,[])) o st d l ks K fr P=gO C l ks K (v9 fr d v) ⟨(st.next,ob)::st.own,st.next+1,st.ro⟩ P:=by
 unfold gV gS
 simp only[B0,if_true,n4.push,s5]
theorem SS (v:V) (ob:Obj) (fz:List Nat) (hf:B0 st.ro st.own fz=true) (o:K8) (d:Option Nat) (l:List j9) (ks:List Nat):gV C (some (v,some ob,fz)) o st d l ks K fr P=gO C l ks K (v9 fr d v) ⟨(st.next,ob)::D1 fz st.own,st.next+1,st.ro⟩ P:=by
 unfold gV gS
 simp only[hf,if_true,n4.push]
theorem SU (o:K8) (d:Option Nat) (l:List j9) (ks:List Nat):gV C none o st d l ks K fr P=gS C (P8 fr st o) d l ks K fr P:=(rfl)
theorem SQ (v:V) (st':n4) (d:Option Nat) (l:List j9) (ks:List Nat):gS C (some (v,st')) d l ks K fr P=gO C l ks K (v9 fr d v) st' P:=(rfl)
theorem uL (f:FuncId) (vs:List V) (d:Option Nat) (l:List j9) (ks:List Nat):qW C f (some vs) st d l ks K fr P=eZ C f vs st fun v st'=>gO C l ks K (v9 fr d v) st' P:=(rfl)
theorem SD (f:FuncId) (a b:List V) (vs:List V) (d:Option Nat) (l:List j9) (ks:List Nat):aB7 C (some (.fn f a b)) (some vs) st d l ks K fr P=qW C f (some (a++vs++b)) st d l ks K fr P:=(rfl)
theorem SE (f:FuncId) (a b:Array Value) (vs:List V) (d:Option Nat) (l:List j9) (ks:List Nat):aB7 C (some (.sc (.func (.func f) a b))) (some vs) st d l ks K fr P=qW C f (some vs) st d l ks K fr P:=(rfl)
theorem JA (o:Nat) (vs:List V) (d:Option Nat) (l:List j9) (ks:List Nat):aB7 C (some (.tok o)) (some vs) st d l ks K fr P=QR C o vs st (fun v st'=>gO C l ks K (v9 fr d v) st' P):=(rfl)
def gM (C:C6) (f:Option FuncId) (vs:List V) (st:n4) (d:Option Nat) (l:List j9) (ks:List Nat) (K:List KF) (fr:D0) (P:A3):Prop:=match f with|some f=>qW C f (some vs) st d l ks K fr P|none=>False
theorem SI (f:FuncId) (vs:List V) (d:Option Nat) (l:List j9) (ks:List Nat):gM C (some f) vs st d l ks K fr P=qW C f (some vs) st d l ks K fr P:=(rfl)
theorem AJ (ms:List (TypeId × FuncId)) (t:TypeId) (u:V) (vs:List V) (d:Option Nat) (l:List j9) (ks:List Nat):AI C ms (some (.ifc t u)) (some vs) st d l ks K fr P=gM C (P6 ms t) (u::vs) st d l ks K fr P:=by
 simp only[AI,eE,gM]
 cases P6 ms t<;>rfl
theorem JD (ms:List (TypeId × FuncId)) (t:TypeId) (u:Value) (vs:List V) (d:Option Nat) (l:List j9) (ks:List Nat):AI C ms (some (.sc (.iface t u))) (some vs) st d l ks K fr P=gM C (P6 ms t) (.sc u::vs) st d l ks K fr P:=by
 simp only[AI,eE,gM]
 cases P6 ms t<;>rfl
theorem aC8 (hid:List (List Bool)) (vds:List (Nat × Nat)) (tail:List j9) (ks:List Nat):gP C [] hid vds tail ks K fr st P=gO C tail ks K fr st P:=(rfl)
theorem cF (d:Option Nat) (o:K8):r4 ⟨d,none,o⟩=a8 (b8 o):=by simp[r4]
theorem xZ {f:D0} {H:D6} {o:K8} (ho:sJ o=true) (Q:V→List Obj→Prop):GO C f H st o Q=match i6 C.E.old f H st.next o with|some (v,ob,fz)=>if fz.isEmpty then Q v ob.toList else False|none=>False:=by
 cases o<;>first|rfl|cases ho
theorem SP (d:Option Nat) (o:K8) (ho:sJ o=true) (l:List j9) (h:List Bool) (hid:List (List Bool)) (vds:List (Nat × Nat)) (tail:List j9) (ks:List Nat):
  gP C (⟨d,none,o⟩::l) (h::hid) vds tail ks K fr st P=gPV C (i6 C.E.old (B9 (a8 (b8 o)) fr) (N4 st.own vds h) st.next o) d l hid vds tail ks K fr st P:=by
 unfold gP gPV
 simp only[YJ,List.headD_cons,List.tail_cons,cF]
 rw[xZ ho]
 cases i6 C.E.old (B9 (a8 (b8 o)) fr) (N4 st.own vds h) st.next o with
 |none=>rfl
 |some r=>obtain ⟨v,ob,fz⟩:=r;rfl
theorem JN (d:Option Nat) (f:FuncId) (xs:List Operand) (l:List j9) (h:List Bool) (hid:List (List Bool)) (vds:List (Nat × Nat)) (tail:List j9) (ks:List Nat):
  gP C (⟨d,none,.callF f xs⟩::l) (h::hid) vds tail ks K fr st P=gPC C f (T7 (B9 (a8 xs) fr) xs) (N4 st.own vds h) d l hid vds tail ks K fr st P:=by
 unfold gP gPC
 simp only[YJ,List.headD_cons,List.tail_cons,cF,GO,b8]
 try rfl
theorem JO (d:Option Nat) (x:Operand) (xs:List Operand) (l:List j9) (h:List Bool) (hid:List (List Bool)) (vds:List (Nat × Nat)) (tail:List j9) (ks:List Nat):
  gP C (⟨d,none,.callV x xs⟩::l) (h::hid) vds tail ks K fr st P=SK C (p7 (B9 (a8 (x::xs)) fr) x) (T7 (B9 (a8 (x::xs)) fr) xs) (N4 st.own vds h) d l hid vds tail ks K fr st P:=by
 unfold gP SK gPC
 simp only[YJ,List.headD_cons,List.tail_cons,cF,GO,b8]
 cases p7 (B9 (a8 (x::xs)) fr) x with
 |none=>rfl
 |some g=>cases T7 (B9 (a8 (x::xs)) fr) xs with
  |none=>rfl
  |some vs=>simp only;cases U2 g vs<;>rfl
theorem JM (v:V) (d:Option Nat) (l:List j9) (hid:List (List Bool)) (vds:List (Nat × Nat)) (tail:List j9) (ks:List Nat):gPV C (some (v,none,[])) d l hid vds tail ks K fr st P=gP C l hid ((st.next,0)::vds) tail ks K (v9 fr d v) st P:=by
 simp[gPV,n4.pushL]
theorem SO (v:V) (ob:Obj) (d:Option Nat) (l:List j9) (hid:List (List Bool)) (vds:List (Nat × Nat)) (tail:List j9) (ks:List Nat):gPV C (some (v,some ob,[])) d l hid vds tail ks K fr st P=gP C l hid ((st.next,1)::vds) tail ks K (v9 fr d v) ⟨(st.next,ob)::st.own,st.next+1,st.ro⟩ P:=by
 simp[gPV,n4.pushL]
theorem JI (f:FuncId) (vs:List V) (H:D6) (d:Option Nat) (l:List j9) (hid:List (List Bool)) (vds:List (Nat × Nat)) (tail:List j9) (ks:List Nat):gPC C f (some vs) H d l hid vds tail ks K fr st P=yP C f vs H st.next (fun v obs=>gP C l hid ((st.next,obs.length)::vds) tail ks K (v9 fr d v) (st.pushL obs) P):=(rfl)
theorem JJ (f:FuncId) (a b vs:List V) (H:D6) (d:Option Nat) (l:List j9) (hid:List (List Bool)) (vds:List (Nat × Nat)) (tail:List j9) (ks:List Nat):SK C (some (.fn f a b)) (some vs) H d l hid vds tail ks K fr st P=gPC C f (some (a++vs++b)) H d l hid vds tail ks K fr st P:=(rfl)
theorem JK (f:FuncId) (a b:Array Value) (vs:List V) (H:D6) (d:Option Nat) (l:List j9) (hid:List (List Bool)) (vds:List (Nat × Nat)) (tail:List j9) (ks:List Nat):SK C (some (.sc (.func (.func f) a b))) (some vs) H d l hid vds tail ks K fr st P=gPC C f (some vs) H d l hid vds tail ks K fr st P:=(rfl)
theorem JP (d:Option Nat) (t:Nat) (want:Bool) (o:K8) (l:List j9) (h:List Bool) (hid:List (List Bool)) (vds:List (Nat × Nat)) (tail:List j9) (ks:List Nat):
  gP C (⟨d,some (t,want),o⟩::l) (h::hid) vds tail ks K fr st P=SL C (i7 fr t) want t d o l (h::hid) vds tail ks K fr st P:=(rfl)
theorem SN (b:Bool) (t:Nat) (d:Option Nat) (o:K8) (ho:sJ o=true) (l:List j9) (h:List Bool) (hid:List (List Bool)) (vds:List (Nat × Nat)) (tail:List j9) (ks:List Nat):
  SL C (some (.sc (.bool b))) b t d o l (h::hid) vds tail ks K fr st P=gPV C (i6 C.E.old (B9 (a8 (b8 o)++ [t]) fr) (N4 st.own vds h) st.next o) d l hid vds tail ks K fr st P:=by
 unfold SL gPV
 simp only[beq_self_eq_true,if_true,List.headD_cons,List.tail_cons]
 rw[xZ ho]
theorem JL (b:Bool) (t:Nat) (d:Option Nat) (f:FuncId) (xs:List Operand) (l:List j9) (h:List Bool) (hid:List (List Bool)) (vds:List (Nat × Nat)) (tail:List j9) (ks:List Nat):
  SL C (some (.sc (.bool b))) b t d (.callF f xs) l (h::hid) vds tail ks K fr st P=gPC C f (T7 (B9 (a8 xs++ [t]) fr) xs) (N4 st.own vds h) d l hid vds tail ks K fr st P:=by
 unfold SL gPC
 simp only[beq_self_eq_true,if_true,List.headD_cons,List.tail_cons,GO,b8]
 try rfl
theorem aC7 (t:Nat) (d:Option Nat) (o:K8) (l:List j9) (h:List Bool) (hid:List (List Bool)) (vds:List (Nat × Nat)) (tail:List j9) (ks:List Nat):SL C (some (.sc (.bool true))) false t d o l (h::hid) vds tail ks K fr st P=gP C l hid ((st.next,0)::vds) tail ks K (v9 fr d (.tup [])) st P:=(rfl)
theorem aC6 (t:Nat) (d:Option Nat) (o:K8) (l:List j9) (h:List Bool) (hid:List (List Bool)) (vds:List (Nat × Nat)) (tail:List j9) (ks:List Nat):SL C (some (.sc (.bool false))) true t d o l (h::hid) vds tail ks K fr st P=gP C l hid ((st.next,0)::vds) tail ks K (v9 fr d (.tup [])) st P:=(rfl)
theorem SM (a:List V) (want:Bool) (t:Nat) (d:Option Nat) (o:K8) (l:List j9) (h:List Bool) (hid:List (List Bool)) (vds:List (Nat × Nat)) (tail:List j9) (ks:List Nat):SL C (some (.tup a)) want t d o l (h::hid) vds tail ks K fr st P=gP C l hid ((st.next,0)::vds) tail ks K (v9 fr d (.tup [])) st P:=(rfl)
def GT (C:C6) (I:Nat→D0→n4→Prop) (m:Nat) (K:List KF) (P:A3):A3
 | .normal,fr,st=>∃ m' fr' st',m'<m∧L2 C fr st fr' st'∧I m' fr' st'
 | .exit i,fr,st=>gK C K (.exit i) fr st P
 | .ret,fr,st=>gK C K .ret fr st P
theorem nM (I m):GT C I m K P .normal fr st=∃ m' fr' st',m'<m∧L2 C fr st fr' st'∧I m' fr' st':=(rfl)
theorem uX (I m) (i:Nat):GT C I m K P (.exit i) fr st=gK C K (.exit i) fr st P:=(rfl)
theorem BE (I m):GT C I m K P .ret fr st=gK C K .ret fr st P:=(rfl)
theorem n9 {ks:List Nat} {b:AC} (I:Nat→D0→n4→Prop) (m:Nat) (hm:m<C.E.rounds) (hi:∃ fr' st',L2 C fr st fr' st'∧I m fr' st') (hround:∀ m fr st,I m fr st→gC C b [] (B9 ks fr) st (GT C I m K P)):gL C ks b K fr st P:=by
 obtain ⟨fr',st',hw,hi⟩:=hi
 refine aA3 I m fr' st' hw hi hm fun m fr st h=>?_
 have h1:=hround m fr st h
 have:(fun ex fr st=>gK C [] ex fr st (GT C I m K P))=YN C I m fun ex fr st=>gK C K ex fr st P:=by
  funext ex f t
  cases ex<;>rfl
 unfold gC at h1
 rw[this] at h1
 exact h1
def YP (C:C6) (o:Option (List V)) (st:n4) (v:V) (st1:n4):Prop:=∃ vs,o=some vs∧L2 C [(0,O5 vs)] st [(0,v)] st1
theorem BU (C:C6) (res v st1):oK C res v st1 .ret fr st=YP C (L5 C fr st res) st v st1:=(rfl)
theorem nX (C:C6) (res v st1):oK C res v st1 .normal fr st=YP C (L5 C fr st res) st v st1:=(rfl)
theorem wE (C:C6) (vs:List V) (st:n4) (v:V) (st1:n4):YP C (some vs) st v st1=L2 C [(0,O5 vs)] st [(0,v)] st1:=by
 apply propext
 constructor
 ·rintro ⟨_,h,q⟩;cases h;exact q
 ·exact fun q=>⟨_,rfl,q⟩
end
def scO (x:Option Value):Option V:=x.map .sc
theorem LZ (x:Value):scO (some x)=some (.sc x):=(rfl)
theorem bC9 (v:V):vp (some v)=some (v,none,[]):=(rfl)
def TM:Option V→Option V→Option V→Option V
 |some (.sc (.bool t)),a,b=>if t then a else b
 |_,_,_=>none
theorem TP (a b:Option V):TM (some (.sc (.bool true))) a b=a:=(rfl)
theorem TO (a b:Option V):TM (some (.sc (.bool false))) a b=b:=(rfl)
theorem TN (t:Bool) (a b:Option V):TM (some (.sc (.bool t))) a b=if t then a else b:=(rfl)
def aQ3 (nx:Nat) (t:TypeId) (v:V):VO:=(K4 v).bind fun cs=>some (.ptr nx 0,some (.box t 1 cs),[])
theorem HK (nx:Nat) (t:TypeId) (v:V) (h:bD v=true):aQ3 nx t v=some (.ptr nx 0,some (.box t 1 [v]),[]):=by
 cases v<;>first|rfl|cases h
theorem HJ (nx:Nat) (t:TypeId) (l:List V) (h:l.all bD=true):aQ3 nx t (.agg l)=some (.ptr nx 0,some (.box t 1 l),[]):=by
 simp only[aQ3,K4,h,if_true,Option.bind_some]
def DW (z:List Value) (ps:List (Nat × Nat × V)):VO:=if z.all D5 then vp ((X7 (YL z) ps).map .agg) else none
theorem zD (z:List Value) (ps:List (Nat × Nat × V)) (h:z.all D5=true):DW z ps=vp ((X7 (YL z) ps).map .agg):=by simp only[DW,h,if_true]
theorem DA (cs:List V):X7 cs []=some cs:=(rfl)
theorem X3 {α:Type} (v:α):∀ (cs:List α) (k:Nat),k<cs.length→C8 cs k [v]=some (cs.set k v)
 | [],k,h=>by simp at h
 |c::cs,0,h=>by cases cs<;>simp[C8]
 |c::cs,k+1,h=>by simp[C8,X3 v cs k (by simpa using h)]
theorem eV (v:V) (h:bD v=true):K4 v=some [v]:=by cases v<;>first|rfl|cases h
theorem DB (cs:List V) (o:Nat) (v:V) (r:List (Nat × Nat × V)) (hv:bD v=true) (ho:o<cs.length):X7 cs ((o,1,v)::r)=X7 (cs.set o v) r:=by
 simp only[X7,eV v hv,Option.bind_some,List.length_singleton]
 rw[if_pos (by simp only[Bool.and_eq_true,Nat.ble_eq];exact ⟨rfl,by omega⟩),X3 _ _ _ ho]
 rfl
def PL (l:List V) (o:Nat) (m:List V):List V:=l.take o++m++l.drop (o+m.length)
theorem nU {α:Type}:∀ (cs:List α) (k:Nat) (vs:List α),k+vs.length≤cs.length→C8 cs k vs=some (cs.take k++vs++cs.drop (k+vs.length))
 |cs,k,[],h=>by
  have:C8 cs k []=some cs:=by cases cs<;>cases k<;>rfl
  rw[this];simp
 | [],k,v::vs,h=>by simp at h
 |c::cs,0,v::vs,h=>by
  simp only[List.length_cons] at h
  simp only[C8,nU cs 0 vs (by omega),List.take_zero,List.nil_append,Option.map_some,Option.some.injEq,List.cons_append,List.length_cons,Nat.zero_add]
  rfl
 |c::cs,k+1,v::vs,h=>by
  simp only[List.length_cons] at h
  simp only[C8,nU cs k (v::vs) (by simp;omega),Option.map_some,Option.some.injEq,List.length_cons]
  rw[show k+1+(vs.length+1)=(k+(vs.length+1))+1 by omega]
  rfl
theorem CZ (cs:List V) (o n:Nat) (l:List V) (r:List (Nat × Nat × V)) (hl:l.all bD=true) (hn:Nat.beq l.length n=true) (ho:Nat.ble (o+n) cs.length=true):X7 cs ((o,n,.agg l)::r)=X7 (PL cs o l) r:=by
 simp only[X7,K4,hl,if_true,Option.bind_some]
 have hn':=j7.1 hn
 rw[if_pos (by rw[hn,ho];rfl),nU _ _ _ (by rw[Nat.ble_eq] at ho;omega)]
 rfl
def P7 (nx:Nat) (t:TypeId) (e n:Nat) (z:List Value) (ps:List (Nat × Nat × V)):VO:=
 if (rep z n).all D5 && Nat.blt n t8 then (match fX (lU (rep z n)) ps with
   |some cs=>some (.ref nx 0 n n,some (.row t e false false cs),[])
   |none=>(X7 (YL (rep z n)) ps).bind fun cs=>some (.ref nx 0 n n,some (.box t e cs),[])) else none
theorem WF (cs:List D) (o:Nat) (v:V) (d:D) (r:List (Nat × Nat × V)) (hv:bD v=true) (hd:MS v=some d) (ho:o<cs.length):fX cs ((o,1,v)::r)=fX (cs.set o d) r:=by
 simp only[fX,eV v hv,Option.bind_some,CR,hd,Option.map_some,List.length_singleton]
 rw[if_pos (by simp only[Bool.and_eq_true,Nat.ble_eq];exact ⟨rfl,by omega⟩),X3 _ _ _ ho]
 rfl
theorem bB9 (nx:Nat) (t:TypeId) (e:Nat) (z:List Value):P7 nx t e 0 z []=some (.ref nx 0 0 0,some (.row t e false false []),[]):=(rfl)
theorem LP (nx:Nat) (t:TypeId) (z:Value) (hz:D5 z=true) (x:Value):P7 nx t 1 1 [z] [(0,1,.sc x)]=some (.ref nx 0 1 1,some (.row t 1 false false [.sc x]),[]):=by
 unfold P7
 rw[if_pos (by simp[rep,hz,t8])]
 rfl
theorem LQ (nx:Nat) (t:TypeId) (z:Value) (hz:D5 z=true) (s n:Nat) (l:List D) (h:yL (.sl s n l)=true):P7 nx t 1 1 [z] [(0,1,.sl s n l)]=some (.ref nx 0 1 1,some (.row t 1 false false [.sl s n l]),[]):=by
 have h1:((rep [z] 1).all D5 && Nat.blt 1 t8)=true:=by simp[rep,hz,t8]
 have h2:fX (lU (rep [z] 1)) [(0,1,V.sl s n l)]=some [.sl s n l]:=by
  rw[WF _ _ _ (.sl s n l) _ rfl (by simp only[MS,h,if_true]) (by simp[lU,rep])]
  simp[lU,rep,fX]
 simp only[P7,h1,if_true,h2]
theorem BV (nx:Nat) (t:TypeId) (z:Value) (hz:D5 z=true) (o k n c:Nat):P7 nx t 1 1 [z] [(0,1,.ref o k n c)]=some (.ref nx 0 1 1,some (.box t 1 [.ref o k n c]),[]):=by
 unfold P7
 rw[if_pos (by simp[rep,hz,t8])]
 rfl
theorem LO (nx:Nat) (t:TypeId) (z:Value) (hz:D5 z=true) (s o n:Nat):P7 nx t 1 1 [z] [(0,1,.gr s o n)]=some (.ref nx 0 1 1,some (.box t 1 [.gr s o n]),[]):=by
 unfold P7
 rw[if_pos (by simp[rep,hz,t8])]
 rfl
def bQ (old:Nat→Nat→Option Value) (H:D6) (g:Option Nat) (v:Option V):Option V:=v.bind (bP old H g)
def vK (k:Nat) (g:Option Nat):Option Obj→Option V
 |some (.box _ _ l)=>tK l k g
 |some (.row _ _ _ _ l)=>B4 l k g
 |some (.gro _ _ _ l)=>B4 l k g
 |none=>none
theorem xQ (old:Nat→Nat→Option Value) (H:D6) (g:Option Nat) (o k:Nat):bQ old H g (some (.ptr o k))=vK k g (i7 H o):=by
 simp only[bQ,Option.bind_some,bP,vK]
 cases i7 H o with
 |none=>rfl
 |some ob=>cases ob<;>rfl
theorem DE (old:Nat→Nat→Option Value) (H:D6) (g:Option Nat) (l:List D) (k:Nat):bQ old H g (some (.dp l k))=B4 l k g:=(rfl)
theorem vL (k:Nat) (g:Option Nat) (t e:Nat) (l:List V):vK k g (some (.box t e l))=tK l k g:=(rfl)
theorem vN (k:Nat) (g:Option Nat) (t e:Nat) (a b:Bool) (l:List D):vK k g (some (.row t e a b l))=B4 l k g:=(rfl)
theorem vM (k:Nat) (g:Option Nat) (t e:Nat) (a:Bool) (l:List D):vK k g (some (.gro t e a l))=B4 l k g:=(rfl)
theorem tL (l:List V) (k:Nat):tK l k none=B7 l k:=(rfl)
theorem tM (l:List V) (k n:Nat):tK l k (some n)=(D2 (l.drop k) n).map .agg:=(rfl)
theorem oX {α:Type} [Inhabited α] (f:α→D) (l:List α) (k:Nat) (hk:k<l.length):B4 (l.map f) k none=some (dv (f l[k]!)):=by
 simp only[B4,z8,List.getElem?_map,List.getElem?_eq_getElem hk,Option.map_some]
 rw[getElem!_pos l k hk]
theorem bA0 (x:Value):dv (.sc x)= .sc x:=(rfl)
theorem bA1 (s n:Nat) (l:List D):dv (.sl s n l)= .sl s n l:=(rfl)
theorem oZ {α:Type} (f:α→List D) (e:Nat):∀ (l:List α) (k:Nat),(∀ x ∈ l,(f x).length=e)→k≤l.length→(l.flatMap f).drop (k*e)=(l.drop k).flatMap f
 |l,0,_,_=>by simp
 | [],k+1,_,h=>by simp at h
 |x::l,k+1,hf,h=>by
  have hx:=hf x List.mem_cons_self
  rw[List.flatMap_cons,Nat.succ_mul,List.drop_succ_cons,← oZ f e l k (fun y hy=>hf y (List.mem_cons_of_mem _ hy)) (by simpa using h)]
  rw[Nat.add_comm,List.drop_append,List.drop_eq_nil_of_le (by omega),List.nil_append,show e+k*e - (f x).length=k*e by omega]
theorem lH {α:Type} [Inhabited α] (f:α→List D) (e:Nat) (l:List α) (hf:∀ x,(f x).length=e) (he:e ≠ 0) (k:Nat) (hk:k<l.length):B4 (l.flatMap f) (k*e) (some e)=some (.agg (dvL (f l[k]!))):=by
 have h1:(l.flatMap f).drop (k*e)=f l[k]! ++(l.drop (k+1)).flatMap f:=by
  rw[oZ f e l k (fun x _=>hf x) (Nat.le_of_lt hk),List.drop_eq_getElem_cons hk,List.flatMap_cons,getElem!_pos l k hk]
 simp only[B4]
 rw[if_neg (by rw[j7];exact he),h1,X1 _ _ (by rw[List.length_append,hf];omega),List.take_left' (hf _)]
 rfl
theorem W8 {α:Type} [Inhabited α] (f:α→List D) (e:Nat) (l:List α) (hf:∀ x,(f x).length=e) (k j:Nat) (hk:k<l.length) (hj:j<e):B4 (l.flatMap f) (k*e+j) none=(B7 (f l[k]!) j).map dv:=by
 have h1:(l.flatMap f).drop (k*e)=f l[k]! ++(l.drop (k+1)).flatMap f:=by
  rw[oZ f e l k (fun x _=>hf x) (Nat.le_of_lt hk),List.drop_eq_getElem_cons hk,List.flatMap_cons,getElem!_pos l k hk]
 simp only[B4,z8]
 congr 1
 have:(l.flatMap f)[k*e+j]? =((l.flatMap f).drop (k*e))[j]? :=by rw[List.getElem?_drop]
 rw[this,h1,List.getElem?_append_left (by rw[hf];exact hj)]
def nQ:V→Option V
 | .ptr o k=>some (.ptr o k)
 | .dp l o=>some (.dp l o)
 | .fn f a b=>some (.fn f a b)
 | .ifc t v=>some (.ifc t v)
 | .sc (.iface t v)=>some (.sc (.iface t v))
 | .sc (.func (.func f) a b)=>some (.sc (.func (.func f) a b))
 | .sc (.pointer (some a))=>some (.sc (.pointer (some a)))
 |_=>none
theorem rF (o k:Nat):nQ (.ptr o k)=some (.ptr o k):=(rfl)
theorem vG (l:List D) (o:Nat):nQ (.dp l o)=some (.dp l o):=(rfl)
theorem vH (f:FuncId) (a b:List V):nQ (.fn f a b)=some (.fn f a b):=(rfl)
def bE1 (op:BinOp):V→V→Option V
 | .sc a,.sc b=>scO (I6 op a b)
 |_,_=>none
theorem QY (op:BinOp) (a b:Value):bE1 op (.sc a) (.sc b)=scO (I6 op a b):=(rfl)
def aR0 (neg:Bool):V→V→Option V
 | .sc (.bool a),.sc (.bool b)=>some (.sc (.bool (if neg then !(a==b) else a==b)))
 |_,_=>none
def EJ (k:Nat) (neg:Bool) (a b:V):Option V:=(D7 k a).bind fun p=>(D7 k b).bind fun q=>if p||q then some (.sc (.bool (if neg then !(p && q) else p && q))) else none
theorem U3 (neg:Bool) (a:V) (p:Bool) (h:D7 1 a=some p):EJ 1 neg a (.sc (.slice none 0 0))=some (.sc (.bool (if neg then !p else p))):=by
 have:D7 1 (.sc (.slice none 0 0))=some true:=(rfl)
 simp only[EJ,h,this,Option.bind_some,Bool.or_true,if_true,Bool.and_true]
def unV (op:UnOp):V→Option V
 | .sc a=>scO (unA op a)
 |_=>none
theorem aM5 (op:UnOp) (a:Value):unV op (.sc a)=scO (unA op a):=(rfl)
def OQ (k:IntKind):V→Option V
 | .sc (.int _ n)=>some (.sc (.int k (k.wrap n)))
 |_=>none
theorem zN (k j:IntKind) (n:Int):OQ k (.sc (.int j n))=some (.sc (.int k (k.wrap n))):=(rfl)
def ZT:V→Option V
 | .sc (.string s)=>some (.sc (.string s))
 |_=>none
def bL9 (H:D6) (v:V):Option V:=if okV v then (U6 v).bind fun n=>(K7 H 1 n v).bind fun l=>if !l.2.isEmpty then none else (C0 l.1).bind fun bs=>some (.sc (.string ⟨bs.toArray⟩)) else none
def bC (nx:Nat) (t:TypeId) (e b:Nat) (z:List Value):V→V→VO
 | .sc (.int _ l),.sc (.int _ c)=>if 0≤l∧l≤c∧c*b≤r5∧c≤r5∧(rep z c.toNat).all D5=true then some (.ref nx 0 l.toNat c.toNat,some (.row t e false false (lU (rep z c.toNat))),[]) else none
 |_,_=>none
theorem aV3 (z:Value) (n:Nat):lU (rep [z] n)=List.replicate n (.sc z):=by
 rw[FU];simp[lU]
theorem Z8 (nx:Nat) (t:TypeId) (b:Nat) (z:Value) (hz:D5 z=true) (k j:IntKind) (l c:Int) (h0:0≤l) (h1:l≤c) (h2:c*b≤1099511627776) (h3:c≤1099511627776):
  bC nx t 1 b [z] (.sc (.int k l)) (.sc (.int j c))=some (.ref nx 0 l.toNat c.toNat,some (.row t 1 false false (List.replicate c.toNat (.sc z))),[]):=by
 simp only[bC]
 rw[if_pos ⟨h0,h1,h2,h3,by rw[FU];simp[hz]⟩,aV3]
def bC4 (lo hi:Option Value):V→Option V
 | .sc (.string t)=>(v7 hi t.size t.size).bind fun h=>(v7 lo 0 h).bind fun l=>some (.sc (.string (t.extract l h)))
 |_=>none
def bC3 (n e:Nat) (lo hi:Option Value):V→Option V
 | .ptr o k=>if Nat.blt n t8 then aC e lo hi none (.ref o k n n) else none
 |_=>none
def RU (o:Nat):V→Option V
 | .ptr i k=>some (.ptr i (k+o))
 | .dp l k=>some (.dp l (k+o))
 | .sc (.pointer (some a))=>some (.sc (.pointer (some (A7 a o))))
 |_=>none
theorem AF (o i k:Nat):RU o (.ptr i k)=some (.ptr i (k+o)):=(rfl)
theorem IT (o:Nat) (l:List D) (k:Nat):RU o (.dp l k)=some (.dp l (k+o)):=(rfl)
def RV (o:Nat) (n:Option Nat):V→Option V
 | .agg cs=>match n with
   |none=>B7 cs o
   |some n=>(D2 (cs.drop o) n).map .agg
 |_=>none
theorem uD (o:Nat) (cs:List V):RV o none (.agg cs)=B7 cs o:=(rfl)
theorem uE (o n:Nat) (cs:List V):RV o (some n) (.agg cs)=(D2 (cs.drop o) n).map .agg:=(rfl)
def gQ (e:Nat):V→V→Option V
 | .ref o k n _,.sc i=>(z6 i n).map fun i=> .ptr o (k+i*e)
 | .gr _ o n,.sc i=>(z6 i n).map fun i=> .ptr o (i*e)
 | .sl _ n l,.sc i=>(z6 i n).map fun i=> .dp l (i*e)
 | .slk _ n _ l,.sc i=>(z6 i n).map fun i=> .dp l (i*e)
 |_,_=>none
theorem AP (e o k n c:Nat) (kd:IntKind) (i:Int) (h0:0≤i) (h1:i<n):gQ e (.ref o k n c) (.sc (.int kd i))=some (.ptr o (k+i.toNat*e)):=by simp only[gQ,cZ kd i n h0 h1,Option.map_some]
theorem JS (e s o n:Nat) (kd:IntKind) (i:Int) (h0:0≤i) (h1:i<n):gQ e (.gr s o n) (.sc (.int kd i))=some (.ptr o (i.toNat*e)):=by simp only[gQ,cZ kd i n h0 h1,Option.map_some]
theorem JT (e s n:Nat) (l:List D) (kd:IntKind) (i:Int) (h0:0≤i) (h1:i<n):gQ e (.sl s n l) (.sc (.int kd i))=some (.dp l (i.toNat*e)):=by simp only[gQ,cZ kd i n h0 h1,Option.map_some]
def AN (n e:Nat):V→V→Option V
 | .ptr o k,.sc i=>(z6 i n).map fun i=> .ptr o (k+i*e)
 | .dp l k,.sc i=>(z6 i n).map fun i=> .dp l (k+i*e)
 | .sc (.pointer (some a)),.sc i=>(z6 i n).map fun i=> .sc (.pointer (some (A7 a (i*e))))
 |_,_=>none
theorem AO (n e o k:Nat) (kd:IntKind) (i:Int) (h0:0≤i) (h1:i<n):AN n e (.ptr o k) (.sc (.int kd i))=some (.ptr o (k+i.toNat*e)):=by simp only[AN,cZ kd i n h0 h1,Option.map_some]
def SY:V→V→Option V
 | .sc (.string t),.sc i=>(z6 i t.size).bind fun i=>(B7 t.data.toList i).bind fun b=>some (.sc (.int .u8 b.toNat))
 |_,_=>none
def gR (n e:Nat) (g:Option Nat):V→V→Option V
 | .agg cs,.sc i=>(z6 i n).bind fun i=>match g with
   |none=>B7 cs (i*e)
   |some m=>(D2 (cs.drop (i*e)) m).map .agg
 |_,_=>none
def bE4 (i:Nat):V→Option V
 | .tup vs=>B7 vs i
 |_=>none
theorem IR (i:Nat) (vs:List V):bE4 i (.tup vs)=B7 vs i:=(rfl)
def bB0 (t:TypeId):V→Option V
 | .sc v=>some (.sc (.iface t v))
 |v=>some (.ifc t v)
theorem KH (t:TypeId) (v:Value):bB0 t (.sc v)=some (.sc (.iface t v)):=(rfl)
def nL (t:Bool) (x:V):Option V:=if t then (match x with| .sc (.string b)=>some (.sc (.int .i64 b.size))|_=>none) else (U6 x).map fun n=> .sc (.int .i64 n)
theorem KC (s n:Nat) (l:List D):nL false (.sl s n l)=some (.sc (.int .i64 n)):=(rfl)
theorem AZ (o k n c:Nat):nL false (.ref o k n c)=some (.sc (.int .i64 n)):=(rfl)
theorem KB (s o n:Nat):nL false (.gr s o n)=some (.sc (.int .i64 n)):=(rfl)
theorem BA (s n c:Nat) (l:List D):nL false (.slk s n c l)=some (.sc (.int .i64 n)):=(rfl)
theorem AY (n c:Nat):nL false (.sc (.slice none n c))=some (.sc (.int .i64 0)):=(rfl)
theorem BB (b:ByteArray):nL true (.sc (.string b))=some (.sc (.int .i64 b.size)):=(rfl)
def mmV (g:Bool):V→V→Option V
 | .sc (.int k a),.sc (.int _ b)=>some (.sc (.int k (if g then (if b>a then b else a) else if b<a then b else a)))
 |_,_=>none
def aA6 (neg lit:Bool) (ts:List TypeId):V→V→Option V
 | .sc a,.sc b=>(tY lit ts a b).map fun r=> .sc (.bool (if neg then !r else r))
 | .ifc _ _,.sc .nilIface=>some (.sc (.bool neg))
 |_,_=>none
theorem IM (neg lit:Bool) (ts:List TypeId) (a b:Value):aA6 neg lit ts (.sc a) (.sc b)=(tY lit ts a b).map fun r=> .sc (.bool (if neg then !r else r)):=(rfl)
section
variable (old:Nat→Nat→Option Value) (fr:D0) (H:D6) (nx:Nat)
theorem aH7 (x:Operand):i6 old fr H nx (.mov x)=vp (p7 fr x):=(rfl)
theorem UC (c x y:Operand):i6 old fr H nx (.pick c x y)=vp (TM (p7 fr c) (p7 fr x) (p7 fr y)):=by
 simp only[i6]
 cases p7 fr c with
 |none=>rfl
 |some v=>
  simp only[Option.bind_some]
  cases v with
  |sc u=>cases u with
   |bool t=>cases t<;>rfl
   |_=>rfl
  |_=>rfl
theorem KV (t:TypeId) (z:List (Nat × Value)) (h:(S9 z).all D5=true):i6 old fr H nx (.alloc t z)=some (.ptr nx 0,some (.box t 1 (YL (S9 z))),[]):=by simp only[i6,h,if_true]
theorem aH2 (t:TypeId) (x:Operand):i6 old fr H nx (.box t x)=jM (aQ3 nx t) (p7 fr x):=(rfl)
theorem KX (z:List Value) (ps:List (Nat × Nat × Operand)):i6 old fr H nx (.build z ps)=jM (DW z) (K5 fr ps):=by
 simp only[i6,jM]
 cases K5 fr ps with
 |none=>split<;>rfl
 |some v=>simp only[Option.bind_some,DW]
theorem LD (t:TypeId) (e n:Nat) (z:List Value) (ps:List (Nat × Nat × Operand)):i6 old fr H nx (.mkRow t e n z ps)=jM (P7 nx t e n z) (K5 fr ps):=by
 simp only[i6,jM]
 cases K5 fr ps with
 |none=>split<;>rfl
 |some v=>simp only[Option.bind_some,P7];rfl
theorem TZ (g:Option Nat) (x:Operand):i6 old fr H nx (.load g x)=vp (bQ old H g (p7 fr x)):=by
 simp only[i6,bQ]
 cases p7 fr x<;>rfl
theorem BN (x:Operand):i6 old fr H nx (.nilChk x)=vp (jM nQ (p7 fr x)):=by
 simp only[i6,jM]
 cases p7 fr x with
 |none=>rfl
 |some v=>
  simp only[Option.bind_some]
  unfold nQ
  split<;>first|rfl|(split<;>first|rfl|(exfalso;simp_all;done))
theorem aH1 (op:BinOp) (x y:Operand):i6 old fr H nx (.bin op x y)=vp (jN (bE1 op) (p7 fr x) (p7 fr y)):=by
 simp only[i6,jN]
 cases p7 fr x with
 |none=>rfl
 |some a=>cases p7 fr y with
  |none=>rfl
  |some b=>
   simp only[Option.bind_some]
   unfold bE1
   split<;>first|rfl|(split<;>first|rfl|(exfalso;simp_all;done))
theorem aH4 (g:Bool) (x y:Operand):i6 old fr H nx (.eqB g x y)=vp (jN (aR0 g) (p7 fr x) (p7 fr y)):=by
 simp only[i6,jN]
 cases p7 fr x with
 |none=>rfl
 |some a=>cases p7 fr y with
  |none=>rfl
  |some b=>
   simp only[Option.bind_some]
   unfold aR0
   split<;>first|rfl|(split<;>first|rfl|(exfalso;simp_all;done))
theorem LB (k:Nat) (g:Bool) (x y:Operand):i6 old fr H nx (.eqNil k g x y)=vp (jN (EJ k g) (p7 fr x) (p7 fr y)):=by
 simp only[i6,jN]
 cases p7 fr x with
 |none=>rfl
 |some a=>cases p7 fr y with
  |none=>rfl
  |some b=>
   simp only[Option.bind_some,EJ]
   cases D7 k a with
   |none=>rfl
   |some p=>cases D7 k b with
    |none=>rfl
    |some q=>simp only[Option.bind_some];split<;>rfl
theorem bB5 (op:UnOp) (x:Operand):i6 old fr H nx (.un op x)=vp (jM (unV op) (p7 fr x)):=by
 simp only[i6,jM]
 cases p7 fr x with
 |none=>rfl
 |some v=>simp only[Option.bind_some];unfold unV;split<;>first|rfl|(split<;>first|rfl|(exfalso;simp_all;done))
theorem KY (k:IntKind) (x:Operand):i6 old fr H nx (.convI k x)=vp (jM (OQ k) (p7 fr x)):=by
 simp only[i6,jM]
 cases p7 fr x with
 |none=>rfl
 |some v=>simp only[Option.bind_some];unfold OQ;split<;>first|rfl|(split<;>first|rfl|(exfalso;simp_all;done))
theorem KZ (x:Operand):i6 old fr H nx (.convS x)=vp (jM ZT (p7 fr x)):=by
 simp only[i6,jM]
 cases p7 fr x with
 |none=>rfl
 |some v=>simp only[Option.bind_some];unfold ZT;split<;>first|rfl|(split<;>first|rfl|(exfalso;simp_all;done))
theorem aH0 (x:Operand):i6 old fr H nx (.b2s x)=vp (jM (bL9 H) (p7 fr x)):=by
 simp only[i6,jM]
 cases p7 fr x with
 |none=>rfl
 |some v=>
  simp only[Option.bind_some,bL9]
  split
  ·cases U6 v with
   |none=>rfl
   |some n=>
    simp only[Option.bind_some]
    cases K7 H 1 n v with
    |none=>rfl
    |some l=>
     simp only[Option.bind_some]
     split
     ·rfl
     ·cases C0 l.1<;>rfl
  ·rfl
theorem vV (t:TypeId) (e b:Nat) (z:List Value) (x y:Operand):i6 old fr H nx (.mkSlice t e b z x y)=jN (bC nx t e b z) (p7 fr x) (p7 fr y):=by
 simp only[i6,jN]
 cases p7 fr x with
 |none=>rfl
 |some a=>cases p7 fr y with
  |none=>rfl
  |some b=>
   simp only[Option.bind_some]
   cases a with
   |sc u=>cases u<;>first|rfl|(cases b with|sc v=>cases v<;>rfl|_=>rfl)
   |_=>rfl
def wN (f:Option Value→Option Value→V→Option V) (lo hi:Option (Option Value)) (x:Option V):Option V:=x.bind fun x=>lo.bind fun lo=>hi.bind fun hi=>f lo hi x
theorem wO (f:Option Value→Option Value→V→Option V) (lo hi:Option Value) (x:V):wN f (some lo) (some hi) (some x)=f lo hi x:=(rfl)
theorem UE (x:Operand) (lo hi:Option Operand):i6 old fr H nx (.slcS x lo hi)=vp (wN (fun lo hi=>bC4 lo hi) (T6 fr lo) (T6 fr hi) (p7 fr x)):=by
 simp only[i6,wN]
 cases p7 fr x with
 |none=>rfl
 |some a=>cases T6 fr lo with
  |none=>rfl
  |some l=>cases T6 fr hi with
   |none=>rfl
   |some h=>
    simp only[Option.bind_some]
    cases a with
    |sc u=>cases u with
     |string t=>
      simp only[bC4]
      cases v7 h t.size t.size with
      |none=>rfl
      |some i=>simp only[Option.bind_some];cases v7 l 0 i<;>rfl
     |_=>rfl
    |_=>rfl
theorem aH8 (e:Nat) (x:Operand) (lo hi mx:Option Operand):i6 old fr H nx (.slc e x lo hi mx)=vp ((T6 fr mx).bind fun mx=>wN (fun lo hi=>aC e lo hi mx) (T6 fr lo) (T6 fr hi) (p7 fr x)):=by
 simp only[i6,wN]
 cases p7 fr x with
 |none=>cases T6 fr mx<;>rfl
 |some a=>cases T6 fr lo with
  |none=>cases T6 fr mx<;>rfl
  |some l=>cases T6 fr hi with
   |none=>cases T6 fr mx<;>rfl
   |some h=>cases T6 fr mx<;>rfl
theorem UD (n e:Nat) (x:Operand) (lo hi:Option Operand):i6 old fr H nx (.slcA n e x lo hi)=vp (wN (fun lo hi=>bC3 n e lo hi) (T6 fr lo) (T6 fr hi) (p7 fr x)):=by
 simp only[i6,wN]
 cases p7 fr x with
 |none=>rfl
 |some a=>cases T6 fr lo with
  |none=>rfl
  |some l=>cases T6 fr hi with
   |none=>rfl
   |some h=>
    simp only[Option.bind_some]
    cases a with
    |ptr o k=>simp only[bC3];split<;>rfl
    |_=>rfl
theorem TT (o:Nat) (x:Operand):i6 old fr H nx (.fldA o x)=vp (jM (RU o) (p7 fr x)):=by
 simp only[i6,jM]
 cases p7 fr x with
 |none=>rfl
 |some v=>simp only[Option.bind_some];unfold RU;split<;>first|rfl|(split<;>first|rfl|(exfalso;simp_all;done))
theorem TU (o:Nat) (n:Option Nat) (x:Operand):i6 old fr H nx (.fldV o n x)=vp (jM (RV o n) (p7 fr x)):=by
 simp only[i6,jM]
 cases p7 fr x with
 |none=>rfl
 |some v=>simp only[Option.bind_some];unfold RV;split<;>first|(split<;>first|rfl|(exfalso;simp_all;done))|rfl
theorem TX (e:Nat) (x i:Operand):i6 old fr H nx (.idxS e x i)=vp (jN (gQ e) (p7 fr x) (p7 fr i)):=by
 simp only[i6,jN]
 cases p7 fr x with
 |none=>rfl
 |some a=>cases p7 fr i with
  |none=>rfl
  |some b=>
   simp only[Option.bind_some]
   cases b with
   |sc b=>
    cases a<;>first|rfl|(rename_i n _;simp only[gQ];cases z6 b n<;>rfl)|(rename_i n _ _;simp only[gQ];cases z6 b n<;>rfl)|(rename_i n;simp only[gQ];cases z6 b n<;>rfl)
   |_=>cases a<;>rfl
theorem TV (n e:Nat) (x i:Operand):i6 old fr H nx (.idxA n e x i)=vp (jN (AN n e) (p7 fr x) (p7 fr i)):=by
 simp only[i6,jN]
 cases p7 fr x with
 |none=>rfl
 |some a=>cases p7 fr i with
  |none=>rfl
  |some b=>
   simp only[Option.bind_some]
   cases b with
   |sc b=>
    cases a with
    |ptr o k=>simp only[AN];cases z6 b n<;>rfl
    |dp l k=>simp only[AN];cases z6 b n<;>rfl
    |sc u=>cases u with
     |pointer p=>cases p with
      |none=>rfl
      |some a=>simp only[AN];cases z6 b n<;>rfl
     |_=>rfl
    |_=>rfl
   |_=>cases a with
    |sc u=>cases u with
     |pointer p=>cases p<;>rfl
     |_=>rfl
    |_=>rfl
theorem BM (x i:Operand):i6 old fr H nx (.idxStr x i)=vp (jN SY (p7 fr x) (p7 fr i)):=by
 simp only[i6,jN]
 cases p7 fr x with
 |none=>rfl
 |some a=>cases p7 fr i with
  |none=>rfl
  |some b=>
   simp only[Option.bind_some]
   cases a with
   |sc u=>cases u with
    |string t=>cases b with
     |sc i=>
      simp only[SY]
      cases z6 i t.size with
      |none=>rfl
      |some j=>simp only[Option.bind_some];cases B7 t.data.toList j<;>rfl
     |_=>rfl
    |_=>rfl
   |_=>rfl
theorem TY (n e:Nat) (g:Option Nat) (x i:Operand):i6 old fr H nx (.idxV n e g x i)=vp (jN (gR n e g) (p7 fr x) (p7 fr i)):=by
 simp only[i6,jN]
 cases p7 fr x with
 |none=>rfl
 |some a=>cases p7 fr i with
  |none=>rfl
  |some b=>
   simp only[Option.bind_some]
   cases a with
   |agg cs=>cases b with
    |sc i=>
     simp only[gR]
     cases z6 i n with
     |none=>rfl
     |some j=>simp only[Option.bind_some];cases g<;>rfl
    |_=>rfl
   |_=>rfl
theorem aH5 (x:Operand) (i:Nat):i6 old fr H nx (.ext x i)=vp (jM (bE4 i) (p7 fr x)):=by
 simp only[i6,jM]
 cases p7 fr x with
 |none=>rfl
 |some v=>simp only[Option.bind_some];unfold bE4;split<;>first|rfl|(split<;>first|rfl|(exfalso;simp_all;done))
def KG (f:FuncId) (a b:List V):Option V:=some (.fn f a b)
theorem UA (f:FuncId) (a b:List Operand):i6 old fr H nx (.mkFn f a b)=vp (jN (KG f) (T7 fr a) (T7 fr b)):=by
 simp only[i6,jN,KG]
 cases T7 fr a with
 |none=>rfl
 |some x=>cases T7 fr b<;>rfl
theorem UB (t:TypeId) (x:Operand):i6 old fr H nx (.mkIf t x)=vp (jM (bB0 t) (p7 fr x)):=by
 simp only[i6,jM]
 cases p7 fr x with
 |none=>rfl
 |some v=>simp only[Option.bind_some];cases v<;>rfl
theorem aH6 (t:Bool) (x:Operand):i6 old fr H nx (.len t x)=vp (jM (nL t) (p7 fr x)):=by
 simp only[i6,jM]
 cases p7 fr x with
 |none=>rfl
 |some v=>
  simp only[Option.bind_some]
  cases t with
  |true=>
   cases v with
   |sc u=>cases u<;>rfl
   |_=>rfl
  |false=>
   simp only[nL]
   cases U6 v<;>rfl
theorem bB4 (g:Bool) (x y:Operand):i6 old fr H nx (.mm g x y)=vp (jN (mmV g) (p7 fr x) (p7 fr y)):=by
 simp only[i6,jN]
 cases p7 fr x with
 |none=>rfl
 |some a=>cases p7 fr y with
  |none=>rfl
  |some b=>
   simp only[Option.bind_some]
   cases a with
   |sc u=>cases u<;>first|rfl|(cases b with|sc v=>cases v<;>rfl|_=>rfl)
   |_=>rfl
theorem aG9 (t:TypeId) (e b:Nat) (x y:Operand):i6 old fr H nx (.app t e b x y)=jN (kW H nx t e b) (p7 fr x) (p7 fr y):=(rfl)
def pV:V→Option V
 | .sc (.slice none _ _)=>some (.sc (.pointer none))
 | .ref o k _ c=>if Nat.beq c 0||Nat.beq c t8 then none else some (.ptr o k)
 | .gr _ o n=>if Nat.beq n 0 then none else some (.ptr o 0)
 |_=>none
theorem LE (x:Operand):i6 old fr H nx (.sdata x)=vp (jM pV (p7 fr x)):=by
 simp only[i6,jM]
 cases p7 fr x with
 |none=>rfl
 |some a=>
  simp only[Option.bind_some]
  cases a with
  |sc x=>cases x with
   |slice a n c=>cases a<;>rfl
   |_=>rfl
  |ref o k n c=>
   simp only[pV]
   by_cases h:(Nat.beq c 0||Nat.beq c t8)=true
   ·rw[if_pos h,if_pos h];rfl
   ·rw[if_neg h,if_neg h];rfl
  |gr s o n=>
   simp only[pV]
   by_cases h:Nat.beq n 0=true
   ·rw[if_pos h,if_pos h];rfl
   ·rw[if_neg h,if_neg h];rfl
  |_=>rfl
theorem wL (n c:Nat):pV (.sc (.slice none n c))=some (.sc (.pointer none)):=(rfl)
theorem CD (s o n:Nat) (h:n ≠ 0):pV (.gr s o n)=some (.ptr o 0):=by
 simp only[pV]
 rw[if_neg (by rw[j7];exact h)]
def xB (ob:Option Obj) (o k:Nat):Option V:=match ob with|some (.box _ _ l)=>if Nat.blt k l.length then some (.ptr o k) else none|_=>none
def QF (H:D6):V→Option V
 | .sc (.pointer none)=>some (.sc (.pointer none))
 | .ptr o k=>xB (i7 H o) o k
 |_=>none
theorem LG (x:Operand):i6 old fr H nx (.toUns x)=vp (jM (QF H) (p7 fr x)):=by
 simp only[i6,jM]
 cases p7 fr x with
 |none=>rfl
 |some a=>
  simp only[Option.bind_some]
  cases a with
  |sc x=>cases x with
   |pointer a=>cases a<;>rfl
   |_=>rfl
  |ptr o k=>
   simp only[QF,xB]
   cases i7 H o with
   |none=>rfl
   |some ob=>cases ob with
    |box t e l=>
     by_cases h:Nat.blt k l.length=true
     ·simp only[if_pos h];rfl
     ·simp only[if_neg h];rfl
    |_=>rfl
  |_=>rfl
theorem xA (o k:Nat):QF H (.ptr o k)=xB (i7 H o) o k:=(rfl)
theorem xC (t e o k:Nat) (l:List V) (h:k<l.length):xB (some (.box t e l)) o k=some (.ptr o k):=by
 simp only[xB]
 rw[if_pos (by rw[Nat.blt_eq];exact h)]
def gA (t n:Nat) (ob:Option Obj) (o k:Nat):Option V:=match ob with|some (.box t' _ l)=>if Nat.beq t' t && Nat.beq k 0 && Nat.ble n l.length && Nat.blt 0 n then some (.ptr o k) else none|_=>none
def uG (H:D6) (t n:Nat):V→Option V
 | .sc (.pointer none)=>some (.sc (.pointer none))
 | .ptr o k=>gA t n (i7 H o) o k
 |_=>none
theorem vU (t n:Nat) (x:Operand):i6 old fr H nx (.fromUns t n x)=vp (jM (uG H t n) (p7 fr x)):=by
 simp only[i6,jM]
 cases p7 fr x with
 |none=>rfl
 |some a=>
  simp only[Option.bind_some]
  cases a with
  |sc x=>cases x with
   |pointer a=>cases a<;>rfl
   |_=>rfl
  |ptr o k=>
   simp only[uG,gA]
   cases i7 H o with
   |none=>rfl
   |some ob=>cases ob with
    |box t' e l=>
     by_cases h:(Nat.beq t' t && Nat.beq k 0 && Nat.ble n l.length && Nat.blt 0 n)=true
     ·simp only[if_pos h];rfl
     ·simp only[if_neg h];rfl
    |_=>rfl
  |_=>rfl
theorem mX (t n o k:Nat):uG H t n (.ptr o k)=gA t n (i7 H o) o k:=(rfl)
theorem mY (t e n o:Nat) (l:List V) (h:n≤l.length) (h0:0<n):gA t n (some (.box t e l)) o 0=some (.ptr o 0):=by
 simp only[gA]
 rw[if_pos (by rw[Bool.and_eq_true,Bool.and_eq_true,Bool.and_eq_true,j7,j7,Nat.ble_eq,Nat.blt_eq];exact ⟨⟨⟨rfl,rfl⟩,h⟩,h0⟩)]
def EK (neg:Bool) (H:D6):V→V→Option V
 | .sc a,.sc b=>(fY a b).map fun r=> .sc (.bool (if neg then !r else r))
 | .sc (.pointer none),.ptr _ _=>some (.sc (.bool neg))
 | .ptr _ _,.sc (.pointer none)=>some (.sc (.bool neg))
 | .ptr o k,.ptr o' k'=>if o=o'∧(i7 H o).isSome then (match i7 H o with|some (.gro _ _ _ _)=>none|_=>some (.sc (.bool (if neg then !(Nat.beq k k') else Nat.beq k k')))) else none
 |_,_=>none
theorem LC (g:Bool) (x y:Operand):i6 old fr H nx (.eqPtr g x y)=vp (jN (EK g H) (p7 fr x) (p7 fr y)):=by
 simp only[i6,jN]
 cases p7 fr x with
 |none=>rfl
 |some a=>cases p7 fr y with
  |none=>rfl
  |some b=>
   simp only[Option.bind_some]
   cases a with
   |sc a=>cases b with
    |sc b=>simp only[EK];cases fY a b<;>rfl
    |ptr o k=>cases a with
     |pointer a=>cases a<;>rfl
     |_=>rfl
    |_=>cases a with
     |pointer a=>cases a<;>rfl
     |_=>rfl
   |ptr o k=>cases b with
    |sc b=>cases b with
     |pointer a=>cases a<;>rfl
     |_=>rfl
    |ptr o' k'=>
     simp only[EK]
     by_cases h:o=o'∧(i7 H o).isSome=true
     ·rw[if_pos h,if_pos h]
      cases i7 H o with
      |none=>rfl
      |some ob=>cases ob<;>rfl
     ·rw[if_neg h,if_neg h];rfl
    |_=>rfl
   |_=>rfl
theorem qS (g:Bool) (o k:Nat):EK g H (.ptr o k) (.sc (.pointer none))=some (.sc (.bool g)):=(rfl)
theorem LA (g:Bool) (ps:List (Nat × Nat)) (x y:Operand):i6 old fr H nx (.eqAgg g ps x y)=vp (jN (lI g ps) (p7 fr x) (p7 fr y)):=by
 simp only[i6,jN]
 cases p7 fr x with
 |none=>rfl
 |some a=>cases p7 fr y with
  |none=>rfl
  |some b=>simp only[Option.bind_some];cases lI g ps a b<;>rfl
def aE9 (g r:Bool):Bool:=if g then !r else r
theorem aF1 (r:Bool):aE9 true r= !r:=(rfl)
theorem aF0 (r:Bool):aE9 false r=r:=(rfl)
theorem eG (g:Bool) (ps:List (Nat × Nat)) (xs ys:List V):lI g ps (.agg xs) (.agg ys)=(Q1 ps xs ys).map fun r=> .sc (.bool (aE9 g r)):=(rfl)
theorem Z3 (xs ys:List V):Q1 [] xs ys=some true:=(rfl)
theorem W1 (o c:Nat) (r:List (Nat × Nat)) (xs ys:List V):Q1 ((o,c)::r) xs ys=DO (W0 c (B7 xs o) (B7 ys o)) (Q1 r xs ys):=(rfl)
theorem iZ (p q:Bool):DO (some p) (some q)=some (p && q):=by cases p<;>rfl
theorem cB (k:IntKind) (a b:Int):W0 0 (some (.sc (.int k a))) (some (.sc (.int k b)))=some (decide (a=b)):=by
 simp only[W0,pD,if_true]
 rfl
theorem Z2 (a b:Bool):W0 2 (some (.sc (.bool a))) (some (.sc (.bool b)))=some (a==b):=(rfl)
theorem qQ (a b:ByteArray):W0 1 (some (.sc (.string a))) (some (.sc (.string b)))=some (a.toList==b.toList):=(rfl)
theorem TS (g l:Bool) (ts:List TypeId) (x y:Operand):i6 old fr H nx (.eqIf g l ts x y)=vp (jN (aA6 g l ts) (p7 fr x) (p7 fr y)):=by
 simp only[i6,jN]
 cases p7 fr x with
 |none=>rfl
 |some a=>cases p7 fr y with
  |none=>rfl
  |some b=>
   simp only[Option.bind_some]
   cases a with
   |sc a=>cases b with
    |sc b=>simp only[aA6];cases tY l ts a b<;>rfl
    |_=>rfl
   |ifc t a=>cases b with
    |sc b=>cases b<;>rfl
    |_=>rfl
   |_=>rfl
theorem LF (n:Nat) (a v:Operand):i6 old fr H nx (.store n a v)=none:=(rfl)
theorem TR (e:Nat) (d s:Operand):i6 old fr H nx (.copy e d s)=none:=(rfl)
theorem UF (t:TypeId) (p n:Operand):i6 old fr H nx (.ustr t p n)=none:=(rfl)
end
def aL6 (st:n4) (n:Nat) (a v:V):Option (V × n4):=(GM st n a v).map fun st=>(.tup [],st)
theorem NZ (fr:D0) (st:n4) (n:Nat) (a v:Operand):P8 fr st (.store n a v)=jN (aL6 st n) (p7 fr a) (p7 fr v):=by
 simp only[P8,jN]
 rfl
theorem aP1 (fr:D0) (st:n4) (t:TypeId) (e b:Nat) (x y:Operand):P8 fr st (.app t e b x y)=jN (rU st t e b) (p7 fr x) (p7 fr y):=(rfl)
theorem VG (fr:D0) (st:n4) (e:Nat) (d x:Operand):P8 fr st (.copy e d x)=jN (UT st e) (p7 fr d) (p7 fr x):=(rfl)
theorem VH (fr:D0) (st:n4) (t:TypeId) (p n:Operand):P8 fr st (.ustr t p n)=jN (VD st t) (p7 fr p) (p7 fr n):=(rfl)
theorem KA (o k n c:Nat):R6 (.ref o k n c)=some n:=(rfl)
theorem aR8 (s n:Nat) (l:List D):R6 (.sl s n l)=some n:=(rfl)
theorem aE0 (s n c:Nat) (l:List D):R6 (.slk s n c l)=some n:=(rfl)
theorem aR7 (s o n:Nat):R6 (.gr s o n)=some n:=(rfl)
theorem aE1 (b:ByteArray):R6 (.sc (.string b))=some b.size:=(rfl)
theorem bI2 (H:D6) (e s n:Nat) (l:List D) (h:l.length=n*e):K7 H e n (.sl s n l)=some (l,[]):=by
 simp only[K7]
 rw[if_pos ⟨h,Nat.le_refl _⟩,List.take_of_length_le (by omega)]
theorem aV7 (H:D6) (e s n c:Nat) (l:List D) (h:l.length=n*e):K7 H e n (.slk s n c l)=some (l,[]):=by
 simp only[K7]
 rw[if_pos ⟨h,Nat.le_refl _⟩,List.take_of_length_le (by omega)]
theorem aV8 (H:D6) (s:ByteArray):K7 H 1 s.size (.sc (.string s))=some (s.data.toList.map fun b=> .sc (.int .u8 b.toNat),[]):=by
 simp only[K7]
 rw[if_pos (by simp)]
 rw[List.take_of_length_le (by simp)]
theorem j6 {α:Type} (f:α→D) (hf:∀ x,yL (f x)=true) (l:List α):P1 (l.map f)=true:=by
 simp only[P1,List.all_map,List.all_eq_true]
 intro x _
 exact hf x
section
variable {α:Type} [Inhabited α] [DecidableEq α]
end
theorem vA {α:Type} (l:List α):D2 l 0=some []:=by cases l<;>rfl
theorem uZ {α:Type} (x:α) (l:List α) (n:Nat):D2 (x::l) (n+1)=(D2 l n).map (x::·):=rfl
theorem all_cons (x:Value) (l:List Value) (hx:B2 x=true) (hl:l.all B2=true):(x::l).all B2=true:=by simp[hx,hl]
theorem yR.one {lo:Nat} {s:St} {t:TypeId} {e:Nat} {v:Value} {n:Nat} {cs:List Value} (o:yR lo s t e v n cs):B2 v=true:=by
 rcases o.is with ⟨rfl,_⟩|⟨i,_,_,_,⟨rfl,_⟩|⟨rfl,_⟩⟩<;>rfl
def bV7:K8→Bool
 | .load _ _=>true
 | .store _ _ _=>true
 | .app _ _ _ _ _=>true
 | .copy _ _ _=>true
 |_=>false
section
variable {E:D9} {K:List KF} {fr f fr0:Fr} {s:St} {p n:Nat} {conc:List Nat} {hint:Option (List Nat)} {d:Option Nat} {l:List qI} {rs:List H2} {h:m0} {tail:List j9} {ks:List Nat} {V:VS}
theorem XR (d':Option Nat) (g:Option (Nat × Bool)) (o:K8):Q8 E fr0 p ⟨⟨d',g,o⟩,conc,hint⟩ rs f h n=Q8 E fr0 p ⟨⟨none,none,o⟩,conc,hint⟩ rs f h n:=by
 cases o<;>rfl
end
theorem bO5 (v w v' w':VS) (a b:NW):H2.ok ⟨v,w,a⟩ ⟨v',w',b⟩=(w.dis v' && w'.dis v && a.out v'):=rfl
theorem aA0 (a b:List Nat):(VS.only a).dis (.only b)=IK a b:=rfl
theorem aG0 (a c:Nat) (b:List Nat):(NW.rng a c).out (.only b)=vQ a c b:=rfl

section
variable {α:Type}
theorem mJ (i:Nat):i7 ([]:List (Nat × α)) i=none:=(rfl)
theorem HB (i:Nat) (v:α):lC [] i v= [(i,v)]:=(rfl)
theorem tH (i j:Nat) (u v:α) (r:List (Nat × α)):lC ((j,u)::r) i v=if i=j then (i,v)::r else if i<j then (i,v)::(j,u)::r else (j,u)::lC r i v:=by
 simp only[lC]
 by_cases h:i=j
 ·rw[if_pos (j7.2 h),if_pos h]
 ·rw[if_neg (by rw[j7];exact h),if_neg h]
  by_cases h2:i<j
  ·rw[if_pos (by rw[Nat.blt_eq];exact h2),if_pos h2]
  ·rw[if_neg (by rw[Nat.blt_eq];exact h2),if_neg h2]
theorem tG (fr:List (Nat × α)) (i:Nat) (v:α):v9 fr (some i) v=lC fr i v:=(rfl)
theorem tF (fr:List (Nat × α)) (v:α):v9 fr none v=fr:=(rfl)
theorem HC (i:Nat) (v:α):B5 [] i v= []:=(rfl)
theorem U1 (i j:Nat) (u v:α) (r:List (Nat × α)):B5 ((j,u)::r) i v=if i=j then (j,v)::r else (j,u)::B5 r i v:=by
 simp only[B5]
 by_cases h:i=j
 ·rw[if_pos (j7.2 h),if_pos h]
 ·rw[if_neg (by rw[j7];exact h),if_neg h]
theorem GU (i:Nat):J4 i ([]:List (Nat × α))= []:=(rfl)
theorem sX (i j:Nat) (u:α) (r:List (Nat × α)):J4 i ((j,u)::r)=if i=j then J4 i r else (j,u)::J4 i r:=by
 simp only[J4]
 by_cases h:i=j
 ·rw[if_pos (j7.2 h),if_pos h]
 ·rw[if_neg (by rw[j7];exact h),if_neg h]
theorem yS (ks:List Nat):B9 ks ([]:List (Nat × α))= []:=(rfl)
theorem qJ (ks:List Nat) (j:Nat) (v:α) (r:List (Nat × α)):B9 ks ((j,v)::r)=if m8 j ks=true then (j,v)::B9 ks r else B9 ks r:=(rfl)
end
theorem uH (fz:List Nat):D1 fz []= []:=(rfl)
theorem gB (fz:List Nat) (j:Nat) (o:Obj) (r:D6):D1 fz ((j,o)::r)=(j,if m8 j fz=true then o.froz else o)::D1 fz r:=(rfl)
theorem IY (t e:Nat) (g z:Bool) (l:List D):(Obj.row t e g z l).froz= .row t e g true l:=(rfl)
theorem IX (t e:Nat) (z:Bool) (l:List D):(Obj.gro t e z l).froz= .gro t e true l:=(rfl)
theorem IW (t e:Nat) (l:List V):(Obj.box t e l).froz= .box t e l:=(rfl)
theorem XM (ro:Nat) (H:D6) (o t e:Nat) (g z:Bool) (l:List D) (r:List Nat) (h:i7 H o=some (.row t e g z l)) (hro:ro≤o) (hr:B0 ro H r=true):B0 ro H (o::r)=true:=by
 simp only[B0,h,hr,Bool.and_true,Nat.ble_eq];exact hro
theorem XL (ro:Nat) (H:D6) (o t e:Nat) (z:Bool) (l:List D) (r:List Nat) (h:i7 H o=some (.gro t e z l)) (hro:ro≤o) (hr:B0 ro H r=true):B0 ro H (o::r)=true:=by
 simp only[B0,h,hr,Bool.and_true,Nat.ble_eq];exact hro
section
variable {fr:D0}
theorem UZ (t:Nat):p7 fr (.tmp t)=i7 fr t:=(rfl)
theorem UX (k:IntKind) (n:Int):p7 fr (.const (.int k n))=some (.sc (.int k n)):=(rfl)
theorem NF (b:Bool):p7 fr (.const (.bool b))=some (.sc (.bool b)):=(rfl)
theorem UY (b:ByteArray):p7 fr (.const (.string b))=some (.sc (.string b)):=(rfl)
theorem NK:p7 fr (.const (.slice none 0 0))=some (.sc (.slice none 0 0)):=(rfl)
theorem NJ:p7 fr (.const (.pointer none))=some (.sc (.pointer none)):=(rfl)
theorem NI:p7 fr (.const .nilIface)=some (.sc .nilIface):=(rfl)
theorem NH:p7 fr (.const .nilFunc)=some (.sc .nilFunc):=(rfl)
theorem xM (g:Nat):p7 fr (.global g)=some (.sc (.pointer (some ⟨g,0,none⟩))):=(rfl)
theorem NG (f:FuncId):p7 fr (.func f)=some (.sc (.func (.func f) #[] #[])):=(rfl)
theorem NL:T7 fr []=some []:=(rfl)
def zM (a:Option V) (b:Option (List V)):Option (List V):=a.bind fun v=>b.bind fun vs=>some (v::vs)
theorem tT (a:V) (b:List V):zM (some a) (some b)=some (a::b):=(rfl)
theorem CY (x:Operand) (r:List Operand):T7 fr (x::r)=zM (p7 fr x) (T7 fr r):=(rfl)
def bN5 (a:Option V):Option (Option Value):=a.bind fun v=>match v with| .sc (.int k i)=>some (some (.int k i))|_=>none
theorem AR (k:IntKind) (i:Int):bN5 (some (.sc (.int k i)))=some (some (.int k i)):=(rfl)
theorem CW:T6 fr none=some none:=(rfl)
theorem CX (x:Operand):T6 fr (some x)=bN5 (p7 fr x):=(rfl)
theorem oD:K5 fr []=some []:=(rfl)
def ZS (o n:Nat) (a:Option V) (b:Option (List (Nat × Nat × V))):Option (List (Nat × Nat × V)):=a.bind fun v=>b.bind fun vs=>some ((o,n,v)::vs)
theorem qO (o n:Nat) (a:V) (b:List (Nat × Nat × V)):ZS o n (some a) (some b)=some ((o,n,a)::b):=(rfl)
theorem kX (o n:Nat) (x:Operand) (r:List (Nat × Nat × Operand)):K5 fr ((o,n,x)::r)=ZS o n (p7 fr x) (K5 fr r):=(rfl)
end
theorem BL (st:n4):st.pushL []=st:=(rfl)
theorem vS (st:n4) (o:Obj) (r:List Obj):st.pushL (o::r)=n4.pushL ⟨(st.next,o)::st.own,st.next+1,st.ro⟩ r:=(rfl)
theorem xP (H:D6) (o:Nat) (r:List (Nat × Nat)) (m:List Bool):N4 H ((o,3)::r) (false::m)=J4 o (J4 (o+1) (J4 (o+2) (N4 H r m))):=(rfl)
theorem NN (H:D6) (m:List Bool):N4 H [] m=H:=by cases m<;>rfl
theorem DD (H:D6) (p:Nat × Nat) (r:List (Nat × Nat)) (m:List Bool):N4 H (p::r) (true::m)=N4 H r m:=(rfl)
theorem xO (H:D6) (o:Nat) (r:List (Nat × Nat)) (m:List Bool):N4 H ((o,1)::r) (false::m)=J4 o (N4 H r m):=(rfl)
theorem DC (H:D6) (o:Nat) (r:List (Nat × Nat)) (m:List Bool):N4 H ((o,0)::r) (false::m)=N4 H r m:=(rfl)
theorem NM (H:D6) (p:Nat × Nat) (r:List (Nat × Nat)):N4 H (p::r) []=N4 H r []:=(rfl)
section
variable {C:C6} {st:n4} {fr:D0} {res:List (Nat × Option (Option Nat))}
theorem xU:L5 C fr st []=some []:=(rfl)
theorem xV (t:Nat) (r:List (Nat × Option (Option Nat))):L5 C fr st ((t,none)::r)=zM (i7 fr t) (L5 C fr st r):=by
 simp only[L5,zM]
 cases i7 fr t with
 |none=>rfl
 |some v=>simp only[Option.bind_some];cases L5 C fr st r<;>rfl
theorem rW (t:Nat) (g:Option Nat) (r:List (Nat × Option (Option Nat))):L5 C fr st ((t,some g)::r)=zM (bQ C.E.old st.own g (i7 fr t)) (L5 C fr st r):=by
 simp only[L5,zM,bQ]
 cases i7 fr t with
 |none=>rfl
 |some p=>
  simp only[Option.bind_some]
  cases bP C.E.old st.own g p with
  |none=>rfl
  |some v=>simp only[Option.bind_some];cases L5 C fr st r<;>rfl
theorem NT (v:V):O5 [v]=v:=(rfl)
theorem NU (a b:V) (r:List V):O5 (a::b::r)= .tup (a::b::r):=(rfl)
mutual
theorem qF (ρ:List (Nat × Nat)):∀ (v:V),w9 v=true→X9 ρ v=v
 | .sc x,_=>rfl
 | .agg l,h=>by simp only[w9] at h;simp only[X9,lZ ρ l h]
 | .tup l,h=>by simp only[w9] at h;simp only[X9,lZ ρ l h]
 | .sl _ _ _,h=>by simp[w9] at h
 | .slk _ _ _ _,h=>by simp[w9] at h
 | .dp _ _,h=>by simp[w9] at h
 | .ref _ _ _ _,h=>by simp[w9] at h
 | .gr _ _ _,h=>by simp[w9] at h
 | .ptr _ _,h=>by simp[w9] at h
 | .fn _ _ _,h=>by simp[w9] at h
 | .ifc t v,h=>by simp only[w9] at h;simp only[X9,qF ρ v h]
 | .dead,h=>by simp[w9] at h
 | .tok _,h=>by simp[w9] at h
theorem lZ (ρ:List (Nat × Nat)):∀ (l:List V),mV l=true→dO ρ l=l
 | [],_=>rfl
 |v::r,h=>by
  simp only[mV,Bool.and_eq_true] at h
  simp only[dO,qF ρ v h.1,lZ ρ r h.2]
end
theorem b9 {v:V} (h:w9 v=true) (h0:C.w0.nx=0) (hr:st.ro=0):L2 C [(0,v)] st [(0,v)] ⟨[],0,0⟩:=by
 have:=xX (C:=C) (st:=st) [] 0 (fr:= [(0,v)]) (by omega) rfl
 rw[hr] at this
 simpa only[vX,qF [] v h,vY] using this
end
section
variable {old:Nat→Nat→Option Value} {rounds:Nat} {fns:FuncId→Option p5} {prims:FuncId→List Value→St→Option (Value × List w7)} {n:Nat} {f:FuncId} {xs:List V} {v:V} {st1:n4} {af:p5}
mutual
theorem EA {H:D6}:∀ {v:V},w9 v=true→Cl H v
 | .sc x,_=>by simp only[Cl]
 | .agg l,h=>by simp only[w9] at h;simp only[Cl];exact tQ h
 | .tup l,h=>by simp only[w9] at h;simp only[Cl];exact tQ h
 | .sl _ _ _,h=>by simp[w9] at h
 | .slk _ _ _ _,h=>by simp[w9] at h
 | .dp _ _,h=>by simp[w9] at h
 | .ref _ _ _ _,h=>by simp[w9] at h
 | .gr _ _ _,h=>by simp[w9] at h
 | .ptr _ _,h=>by simp[w9] at h
 | .fn _ _ _,h=>by simp[w9] at h
 | .ifc t v,h=>by simp only[w9] at h;simp only[Cl];exact EA h
 | .dead,h=>by simp[w9] at h
 | .tok _,h=>by simp[w9] at h
theorem tQ {H:D6}:∀ {l:List V},mV l=true→OB H l
 | [],_=>by simp only[OB]
 |v::r,h=>by
  simp only[mV,Bool.and_eq_true] at h
  simp only[OB]
  exact ⟨EA h.1,tQ h.2⟩
end
theorem i9 (hf:fns f=some af) (hpu:af.pure=true) (hp:∀ xs s,prims f xs s=none) (hlen:xs.length≤af.n) (hold:dR (B6 old rounds fns prims 0)) (hfl:w9 v=true)
  (h:∀ C:C6,C.E=B6 old rounds fns prims n→C.w0.nx=0→gC C af.code [] (T9 0 xs) ⟨[],0,0⟩ (oK C af.res v ⟨[],0,0⟩)):n5 (B6 old rounds fns prims (n+1)) f xs v ⟨[],0,0⟩:=by
 refine NP hf hpu hp hlen hold ⟨?_,(fun o t e l h=>by cases h),(fun o ob h=>by cases h)⟩ rfl h
 exact EA hfl
theorem N2 (hf:fns f=some af) (hpu:af.pure=true) (hp:∀ xs s,prims f xs s=none) (hlen:xs.length≤af.n) (hold:dR (B6 old rounds fns prims 0)) (hR:kJ st1.own v) (hro:st1.ro=0)
  (h:∀ C:C6,C.E=B6 old rounds fns prims n→C.w0.nx=0→gC C af.code [] (T9 0 xs) ⟨[],0,0⟩ (oK C af.res v st1)):n5 (B6 old rounds fns prims (n+1)) f xs v st1:=NP hf hpu hp hlen hold hR hro h
theorem iP {st0:n4} (hf:fns f=some af) (hpu:af.pure=true) (hp:∀ xs s,prims f xs s=none) (hlen:xs.length≤af.n) (hfl:w9 v=true)
  (h:∀ C:C6,C.E=B6 old rounds fns prims n→C.w0.nx=st0.next→∃ st1,gC C af.code [] (T9 0 xs) ⟨st0.own,st0.next,st0.next⟩ (oK C af.res v st1)):I5 (B6 old rounds fns prims (n+1)) f st0 xs v:=YD hf hpu hp hlen hfl h
end
theorem k9 (w:World) {r:Nat} {fns:FuncId→Option p5} {prims:FuncId→List Value→St→Option (Value × List w7)}:dR (B6 (L0 w) r fns prims 0):=by
 intro b o v e
 have e:L0 w b o=some v:=e
 unfold L0 at e
 split at e
 ·cases e;exact .inr ⟨_,_,_,rfl⟩
 ·split at e
  ·rename_i h;cases e;exact .inl (by simpa using h)
  ·cases e
 ·cases e
section
variable {C:C6} {K:List KF} {fr:D0} {st:n4} {P:A3}
theorem N9 {p:Prop} [Decidable p] {t e:AC} (h1:p→gC C t K fr st P) (h2:¬ p→gC C e K fr st P):gI C (some (.sc (.bool (decide p)))) t e K fr st P:=by
 by_cases h:p
 ·rw[aR h,ES];exact h1 h
 ·rw[cU h,uM];exact h2 h
theorem O0 {b:Bool} {t e:AC} (h1:b=true→gC C t K fr st P) (h2:b=false→gC C e K fr st P):gI C (some (.sc (.bool b))) t e K fr st P:=by
 cases b
 ·exact h2 rfl
 ·exact h1 rfl
theorem D4 {p:Prop} [Decidable p] {want:Bool} {d:Option Nat} {o:K8} {l:List j9} {ks:List Nat} (h1:p→gG C (some (.sc (.bool true))) want d o l ks K fr st P) (h2:¬ p→gG C (some (.sc (.bool false))) want d o l ks K fr st P):gG C (some (.sc (.bool (decide p)))) want d o l ks K fr st P:=by
 by_cases h:p
 ·rw[aR h];exact h1 h
 ·rw[cU h];exact h2 h
theorem N8 {b:Bool} {want:Bool} {d:Option Nat} {o:K8} {l:List j9} {ks:List Nat} (h1:b=true→gG C (some (.sc (.bool true))) want d o l ks K fr st P) (h2:b=false→gG C (some (.sc (.bool false))) want d o l ks K fr st P):gG C (some (.sc (.bool b))) want d o l ks K fr st P:=by
 cases b
 ·exact h2 rfl
 ·exact h1 rfl
theorem I8 {p:Prop} [Decidable p] {want:Bool} {t:Nat} {d:Option Nat} {o:K8} {l:List j9} {hid:List (List Bool)} {vds:List (Nat × Nat)} {tail:List j9} {ks:List Nat} (h1:p→SL C (some (.sc (.bool true))) want t d o l hid vds tail ks K fr st P) (h2:¬ p→SL C (some (.sc (.bool false))) want t d o l hid vds tail ks K fr st P):SL C (some (.sc (.bool (decide p)))) want t d o l hid vds tail ks K fr st P:=by
 by_cases h:p
 ·rw[aR h];exact h1 h
 ·rw[cU h];exact h2 h
theorem I9 {b:Bool} {want:Bool} {t:Nat} {d:Option Nat} {o:K8} {l:List j9} {hid:List (List Bool)} {vds:List (Nat × Nat)} {tail:List j9} {ks:List Nat} (h1:b=true→SL C (some (.sc (.bool true))) want t d o l hid vds tail ks K fr st P) (h2:b=false→SL C (some (.sc (.bool false))) want t d o l hid vds tail ks K fr st P):SL C (some (.sc (.bool b))) want t d o l hid vds tail ks K fr st P:=by
 cases b
 ·exact h2 rfl
 ·exact h1 rfl
end
end Go.Itp
