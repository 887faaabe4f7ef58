/- What is proved: the law KnitlogAsks returns true for every input.
   Texts: V8, V9, V10, V11, V12, V13, V14, V15, V16, V17, Lib, Lib2, WalkW, Strs, V18, V19, V20, V21, Shell, Shell2, Shell3, V22, V23, V24.
-/
import Derived.Test.YtgohenjcanfolaaGreatDoorPart2
import Derived.ChangeSame
import Derived.ChangeReads
import Derived.ChangeSlices
import Derived.SliceStrings
import Derived.ChangeShapes
import Derived.WideShapes
import Derived.ProofKit
import Derived.OpenShut
import Derived.SizedLaws
namespace Go.Itp
set_option linter.unusedVariables false
set_option linter.constructorNameAsVariable false
set_option linter.unusedSimpArgs false
section
variable {C:C8} {st:n9} {s:St} {μ:Nat->Option Nat} {F:Nat->Prop}
theorem S4 (fz:List Nat):∀ (H:E9) (i:Nat),j7 (D7 fz H) i=(j7 H i).map fun o=>if p5 i fz then o.froz else o
 | [],i=>rfl
 |(j,o)::r,i=>by
  simp only[D7]
  rw[n5,n5,S4 fz r i]
  by_cases h:i=j
  ·subst h;simp
  ·rw[aQ4 h,aQ4 h]
theorem cR (o:Obj):o.froz.none=o.none:=by
 cases o with
 |gro t e z l=>cases l<;>rfl
 |_=>rfl
theorem MS (o:Obj):o.froz.ok=o.ok:=by cases o<;>rfl
theorem zZ {w:VW} {o:Obj} {b:A0} (h:kB w o b):kB w o.froz b:=by cases o<;>exact h
theorem y9 (H:E9):D7 [] H=H:=by
 induction H with
 |nil=>rfl
 |cons x r ih=>obtain ⟨j,o⟩:=x;simp[D7,p5,ih]
theorem W6 {ro:Nat} {H:E9}:∀ {fz:List Nat},D4 ro H fz=true->∀ o ∈ fz,∃ ob,j7 H o=some ob/\ob.froz.fz=true/\ro<=o
 | [],_,o,h=>by cases h
 |i::r,h,o,ho=>by
  simp only[D4,aO3,bA2] at h
  rcases bX5.1 ho with rfl|ho
  ·have:=h.1.2
   split at this
   ·rename_i e;exact ⟨_,e,rfl,h.1.1⟩
   ·rename_i e;exact ⟨_,e,rfl,h.1.1⟩
   ·cases this
  ·exact W6 h.2 o ho
theorem SR.hr (h:SR C st s μ F):HR C.E st.own s.heap (x8 C st s μ F):=⟨rfl,h.obj,fun b hb=>(h.lt b hb).2⟩
theorem cL4 {w:VW} {n0:Nat} {d:D} {v:Value} (h:A1 w d v) (h6:EQ d=true):∀ i ∈ x9 n0 v,w.F i:=by
 intro i hi
 cases d with
 |sc x=>
  simp only[A1] at h
  rw[h.1,V0 n0 x h.2] at hi
  cases hi
 |sl s n l=>
  simp only[A1] at h
  rcases h with ⟨a,c,rfl,k,_⟩|⟨_,h0,_,rfl|⟨hs,_⟩⟩
  ·obtain ⟨b,o,sp⟩:=a
   cases sp with
   |none=>simp[x9,r6] at hi
   |some sp=>
    simp only[x9,r6] at hi
    split at hi
    ·simp at hi;subst hi;exact k
    ·cases hi
  ·simp[x9,r6] at hi
  ·exact ((bV.1 h6).elim (fun h=>h hs) (fun h=>h h0)).elim
theorem AI {w:VW} {n0:Nat}:∀ {l:List D} {vs:List Value},m6 w l vs->Q1 l=true->∀ i ∈ B8 n0 vs,w.F i
 | [],vs,h,_,i,hi=>by simp only[m6] at h;subst h;simp[B8] at hi
 |d::r,vs,h,h6,i,hi=>by
  simp only[m6] at h
  obtain ⟨v,vs',rfl,h1,h2⟩:=h
  simp only[Q1,dD3,aO3] at h6
  simp only[B8,cB1] at hi
  exact hi.elim (cL4 h1 h6.1 i) (AI h2 h6.2 i)
def cB (μ:Nat->Option Nat) (F:Nat->Prop) (fz:List Nat) (b:Nat):Prop:=F b\/∃ o ∈ fz,μ o=some b
theorem SR.row_cl (h:SR C st s μ F) {o b:Nat} {ob:Obj} (ho:j7 st.own o=some ob) (hr:ob.froz.fz=true) (hb:μ o=some b):∃ blk,i7 s.heap b=some blk/\∀ n,∀ i ∈ B8 n blk.cells,F i:=by
 obtain ⟨_,_,ob',e1,e2⟩:=h.dom o b hb
 rw[ho] at e1
 cases e1
 obtain ⟨b',blk,m1,m2,m3⟩:=h.obj o ob ho e2
 rw[hb] at m1
 cases m1
 refine ⟨blk,m2,?_⟩
 have h6:=(h.own o ob ho).2
 cases ob with
 |box t l=>cases hr
 |row t e g z l=>exact fun n=>AI m3.2.2.2 h6
 |gro t e z l=>exact fun n=>AI m3.2.2.2 h6
theorem SR.fin_ge (h:SR C st s μ F) {fz:List Nat} (h9:D4 st.ro st.own fz=true) {b:Nat} (hb:cB μ F fz b):F b\/s.prot<=b:=by
 rcases hb with hb|⟨o,ho,e⟩
 ·exact .inl hb
 ·obtain ⟨ob,q1,q2,q3⟩:=W6 h9 o ho
  by_cases hz:ob.fz=true
  ·exact .inl (h.fz o ob b q1 e hz)
  ·exact .inr ((h.wr o ob b q1 e (by simpa using hz)).2 q3).1
theorem YM {E:G3} {heap:o7} {n:Nat} {blk:A0} {a:Addr} (h:a.spot=none\/a.block ≠ n):p9 E ((n,blk)::heap) a=p9 E heap a:=by
 obtain ⟨b,o,sp⟩:=a
 cases sp with
 |none=>rfl
 |some k=>
  have hb:b ≠ n:=by simpa using h
  simp only[p9]
  rw[p7,aQ4 hb]
def TM (μ:Nat->Option Nat) (st:n9) (s:St):Option Obj->Nat->Option Nat
 |none=>μ
 |some _=>fun i=>if i=st.next then some s.next else μ i
theorem N5 (μ:Nat->Option Nat) (F:Nat->Prop):cB μ F []=F:=by
 funext b
 simp[cB]
theorem SR.push (h:SR C st s μ F) {v:V} {ob:Option Obj} {fz:List Nat} {vI:Value} {bs:List A0} (hP:kC s.heap (x8 C st s μ F) s.next v ob fz vI bs) (h9:D4 st.ro st.own fz=true):
  SR C (st.push ob fz) (s.push bs) (TM μ st s ob) (cB μ F fz)/\f9 (x8 C (st.push ob fz) (s.push bs) (TM μ st s ob) (cB μ F fz)) v vI/\VW.le (x8 C st s μ F) (x8 C (st.push ob fz) (s.push bs) (TM μ st s ob) (cB μ F fz))/\(∀ b,cB μ F fz b->F b\/s.prot<=b):=by
 cases ob with
 |none=>
  obtain ⟨rfl,rfl,hv⟩:=hP
  have e:st.push none []=st:=by simp[n9.push,y9]
  rw[e,lL,N5]
  exact ⟨h,hv,⟨fun _ _=>rfl,fun _ hb=>hb,aQ5 _,fun _ _ _ hb=>hb⟩,fun _ hb=> .inl hb⟩
 |some o=>
  obtain ⟨hn,hz,h6,blk,rfl,hP⟩:=hP
  rw[bL]
  have hd:∀ o' b,μ o'=some b->b ≠ s.next:=fun o' b e=>Nat.ne_of_lt (h.dom o' b e).1
  let μ':Nat->Option Nat:=fun i=>if i=st.next then some s.next else μ i
  have hμn:μ st.next=none:=by
   cases e:μ st.next with
   |none=>rfl
   |some b=>have:=(h.dom _ b e).2.1;omega
  have hμ':∀ i b,μ' i=some b->(i=st.next/\b=s.next)\/(i ≠ st.next/\μ i=some b):=fun i b e=>by
   simp only[μ'] at e
   split at e
   ·rename_i hi;cases e;exact .inl ⟨hi,rfl⟩
   ·rename_i hi;exact .inr ⟨hi,e⟩
  have h7:VW.le (x8 C st s μ F) (x8 C (st.push (some o) fz) ⟨(s.next,blk)::s.heap,s.next+1,s.prot⟩ μ' (cB μ F fz)):=by
   refine ⟨fun a i=>YM ?_,fun b hb=> .inl hb,by simp[n9.push],fun i b hi e=>?_⟩
   ·obtain ⟨b,o',sp⟩:=a
    cases sp with
    |none=>exact .inl rfl
    |some k=>exact .inr (Nat.ne_of_lt (h.lt b i).1)
   ·rcases hμ' i b e with ⟨he,_⟩|⟨_,e⟩
    ·simp only at hi;omega
    ·exact e
  have hF:∀ b,cB μ F fz b->b<s.next:=by
   rintro b (hb|⟨i,_,e⟩)
   ·exact (h.lt b hb).1
   ·exact (h.dom i b e).1
  have hh:∀ b,b<s.next->i7 ((s.next,blk)::s.heap) b=i7 s.heap b:=fun b hb=>by rw[p7,aQ4 (by omega)]
  obtain ⟨p1,p2⟩:=hP _ h7 (fun i hi b e=> .inr ⟨i,hi,e⟩) (fun i hi b e k sp blk' hb=>by
    simp only[p9,hh b (hF b (.inr ⟨i,hi,e⟩)),hb,aI2,y7]) (by simp[n9.push]) (by simp[μ'])
  have h4:∀ i ob',j7 (st.push (some o) fz).own i=some ob'->(i=st.next/\ob'=o)\/(i ≠ st.next/\∃ ob0,j7 st.own i=some ob0/\ob'=if p5 i fz then ob0.froz else ob0):=fun i ob' e=>by
   simp only[n9.push] at e
   rw[n5] at e
   split at e
   ·rename_i hi;cases e;exact .inl ⟨hi,rfl⟩
   ·rename_i hi
    rw[S4] at e
    simp only[aG4] at e
    obtain ⟨ob0,e1,e2⟩:=e
    exact .inr ⟨hi,ob0,e1,e2.symm⟩
  change SR C _ _ μ' _/\f9 (x8 C _ _ μ' _) v vI/\VW.le _ (x8 C _ _ μ' _)/\_
  refine ⟨⟨?_,?_,?_,?_,?_,?_,?_,?_,?_,?_,?_,?_,?_⟩,p1,h7,?_⟩
  ·intro i ob' e hg
   rcases h4 i ob' e with ⟨rfl,rfl⟩|⟨hi,ob0,e1,rfl⟩
   ·exact ⟨s.next,blk,by simp[μ'],by simp[p7],p2⟩
   ·have hm:ob0.none=false:=by split at hg;(rw[cR] at hg;exact hg);exact hg
    obtain ⟨b,blk0,m1,m2,m3⟩:=h.obj i ob0 e1 hm
    refine ⟨b,blk0,by simp[μ',hi,m1],by simp only;rw[hh b (h.dom i b m1).1];exact m2,?_⟩
    split
    ·exact zZ (m3.mono h7)
    ·exact m3.mono h7
  ·intro i ob' b e e2 h8
   rcases h4 i ob' e with ⟨rfl,rfl⟩|⟨hi,ob0,e1,rfl⟩
   ·have:b=s.next:=by rcases hμ' _ b e2 with ⟨_,hb⟩|⟨he,_⟩;exact hb;exact absurd rfl he
    subst this
    exact ⟨fun hb=>dK8 _ (hF _ hb),fun _=>⟨h.pr,fun hb=>by have:=(h.un _ hb).1;have:=h.n0;omega⟩⟩
   ·have e3:μ i=some b:=by rcases hμ' i b e2 with ⟨he,_⟩|⟨_,e3⟩;exact absurd he hi;exact e3
    by_cases hf:p5 i fz=true
    ·rw[aO9 hf] at h8
     obtain ⟨ob1,q1,q2,_⟩:=W6 h9 i ((m7 _ _).1 hf)
     rw[e1] at q1;cases q1
     rw[h8] at q2;cases q2
    ·rw[aQ4 hf] at h8
     obtain ⟨w2,w3⟩:=h.wr i ob0 b e1 e3 h8
     refine ⟨?_,w3⟩
     rintro (hb|⟨j,hj,ej⟩)
     ·exact w2 hb
     ·have:=h.inj i j b e3 ej
      subst this
      exact hf ((m7 _ _).2 hj)
  ·intro i ob' b e e2 h8
   rcases h4 i ob' e with ⟨rfl,rfl⟩|⟨hi,ob0,e1,rfl⟩
   ·rw[hz] at h8;cases h8
   ·have e3:μ i=some b:=by rcases hμ' i b e2 with ⟨he,_⟩|⟨_,e3⟩;exact absurd he hi;exact e3
    by_cases hf:p5 i fz=true
    ·exact .inr ⟨i,(m7 _ _).1 hf,e3⟩
    ·rw[aQ4 hf] at h8
     exact .inl (h.fz i ob0 b e1 e3 h8)
  ·intro i j b ei ej
   rcases hμ' i b ei with ⟨hi,hb⟩|⟨hi,ei⟩<;>rcases hμ' j b ej with ⟨hj,hw⟩|⟨hj,ej⟩
   ·rw[hi,hj]
   ·exact absurd hb (hd j b ej)
   ·exact absurd hw (hd i b ei)
   ·exact h.inj i j b ei ej
  ·intro i b e
   rcases hμ' i b e with ⟨rfl,rfl⟩|⟨hi,e⟩
   ·exact ⟨by simp,by simp[n9.push],o,by simp[n9.push,n5],hn⟩
   ·obtain ⟨d1,d2,ob0,d3,d4⟩:=h.dom i b e
    refine ⟨by simp only;omega,by simp only[n9.push];omega,(if p5 i fz then ob0.froz else ob0),?_,?_⟩
    ·simp only[n9.push]
     rw[n5,aQ4 hi,S4,d3];rfl
    ·split
     ·rw[cR];exact d4
     ·exact d4
  ·intro b hb
   have hp:=hF b hb
   refine ⟨by simp only;omega,?_⟩
   simp only
   rw[hh b hp]
   rcases hb with hb|⟨i,_,e⟩
   ·exact (h.lt b hb).2
   ·obtain ⟨_,_,ob0,d3,d4⟩:=h.dom i b e
    obtain ⟨b',blk0,m1,m2,_⟩:=h.obj i ob0 d3 d4
    rw[e] at m1;cases m1
    exact ⟨blk0,m2⟩
  ·intro b hb
   have hp:=hF b hb
   simp only
   rw[hh b hp]
   rcases hb with hb|⟨i,hi,e⟩
   ·obtain ⟨blk0,c1,c2⟩:=h.cl b hb
    exact ⟨blk0,c1,fun n j hj=> .inl (c2 n j hj)⟩
   ·obtain ⟨ob0,q1,q2,_⟩:=W6 h9 i hi
    obtain ⟨blk0,c1,c2⟩:=h.row_cl q1 q2 e
    exact ⟨blk0,c1,fun n j hj=> .inl (c2 n j hj)⟩
  ·intro b hb
   obtain ⟨u1,u2⟩:=h.un b hb
   exact ⟨u1,by simp only;rw[hh b (by have:=h.n0;omega)];exact u2⟩
  ·have:=h.n0;simp only;omega
  ·intro i ob' e
   rcases h4 i ob' e with ⟨rfl,rfl⟩|⟨hi,ob0,e1,rfl⟩
   ·exact ⟨by simp[n9.push],h6⟩
   ·obtain ⟨o1,o2⟩:=h.own i ob0 e1
    refine ⟨by simp only[n9.push];omega,?_⟩
    split
    ·rw[MS];exact o2
    ·exact o2
  ·intro b blk' e
   simp only at e ⊢
   rw[p7] at e
   split at e
   ·omega
   ·have:=h.hb b blk' e;omega
  ·have:=h.pr;simp only;omega
  ·intro i b e hi
   rcases hμ' i b e with ⟨rfl,rfl⟩|⟨_,e⟩
   ·exact h.pr
   ·exact h.pb i b e hi
  ·rintro b (hb|hb)
   ·exact .inl hb
   ·exact h.fin_ge h9 (.inr hb)
theorem SR.upd (h:SR C st s μ F) {o b:Nat} {ob:Obj} {blk:A0} (ho:j7 st.own o=some ob) (hz:ob.fz=false) (hq:st.ro<=o) (hμ:μ o=some b) (hu:i7 s.heap b=some blk) {fz:List Nat} (h9:D4 st.ro st.own fz=true) (hx:o ∉ fz)
  {ob':Obj} {blk':A0} (hg:ob'.none=false) (h8:ob'.fz=false) (h6:ob'.ok=true) (hy:∀ w',VW.le (x8 C st s μ F) w'->Fin (x8 C st s μ F) w' fz->LdX s.heap (x8 C st s μ F) w' fz->kB w' ob' blk'):
  SR C ⟨A3 (D7 fz st.own) o ob',st.next,st.ro⟩ {s with heap:=L6 s.heap b blk'} μ (cB μ F fz)/\VW.le (x8 C st s μ F) (x8 C ⟨A3 (D7 fz st.own) o ob',st.next,st.ro⟩ {s with heap:=L6 s.heap b blk'} μ (cB μ F fz))/\s.prot<=b:=by
 obtain ⟨wr2,wr1'⟩:=h.wr o ob b ho hμ hz
 obtain ⟨wr1,wr3⟩:=wr1' hq
 have hl:¬ cB μ F fz b:=by
  rintro (hb|⟨j,hj,ej⟩)
  ·exact wr2 hb
  ·have:=h.inj o j b hμ ej
   subst this
   exact hx hj
 have ha:∀ j,i7 (L6 s.heap b blk') j=if j=b then some blk' else i7 s.heap j:=fun j=>P6 _ _ _ _ _ hu
 have h7:VW.le (x8 C st s μ F) (x8 C ⟨A3 (D7 fz st.own) o ob',st.next,st.ro⟩ {s with heap:=L6 s.heap b blk'} μ (cB μ F fz)):=by
  refine ⟨fun a i=>?_,fun c hc=> .inl hc,aQ5 _,fun i c _ e=>e⟩
  obtain ⟨c,k,sp⟩:=a
  cases sp with
  |none=>rfl
  |some sp=>
   have h3:c ≠ b:=fun e=>by subst e;exact wr2 i
   simp only[p9,ha c,aQ4 h3]
 have g0:=hy _ h7 (fun i hi c e=> .inr ⟨i,hi,e⟩) (fun i hi c e k sp blk0 hc=>by
  have h3:c ≠ b:=fun e'=>by subst e';exact hl (.inr ⟨i,hi,e⟩)
  simp only[p9,ha c,aQ4 h3,hc,aI2,y7])
 have g1:∃ x,j7 (D7 fz st.own) o=some x:=by rw[S4,ho];exact ⟨_,rfl⟩
 obtain ⟨x0,ht⟩:=g1
 have h4:∀ i obj,j7 (A3 (D7 fz st.own) o ob') i=some obj->(i=o/\obj=ob')\/(i ≠ o/\∃ ob0,j7 st.own i=some ob0/\obj=if p5 i fz then ob0.froz else ob0):=fun i obj e=>by
  rw[H7 _ _ _ _ _ ht] at e
  split at e
  ·rename_i hi;cases e;exact .inl ⟨hi,rfl⟩
  ·rename_i hi
   rw[S4] at e
   simp only[aG4] at e
   obtain ⟨ob0,e1,e2⟩:=e
   exact .inr ⟨hi,ob0,e1,e2.symm⟩
 have hd:∀ i c,i ≠ o->μ i=some c->c ≠ b:=fun i c hi e hc=>by subst hc;exact hi (h.inj i o c e hμ)
 refine ⟨⟨?_,?_,?_,h.inj,?_,?_,?_,?_,h.n0,?_,?_,h.pr,h.pb⟩,h7,wr1⟩
 ·intro i obj e hn
  rcases h4 i obj e with ⟨rfl,rfl⟩|⟨hi,ob0,e1,rfl⟩
  ·exact ⟨b,blk',hμ,by simp only;rw[ha,aO9 rfl],g0⟩
  ·have hm:ob0.none=false:=by split at hn;(rw[cR] at hn;exact hn);exact hn
   obtain ⟨c,blk0,m1,m2,m3⟩:=h.obj i ob0 e1 hm
   refine ⟨c,blk0,m1,by simp only;rw[ha,aQ4 (hd i c hi m1)];exact m2,?_⟩
   split
   ·exact zZ (m3.mono h7)
   ·exact m3.mono h7
 ·intro i obj c e e3 h5
  rcases h4 i obj e with ⟨rfl,rfl⟩|⟨hi,ob0,e1,rfl⟩
  ·rw[hμ] at e3;cases e3;exact ⟨hl,fun _=>⟨wr1,wr3⟩⟩
  ·by_cases hf:p5 i fz=true
   ·rw[aO9 hf] at h5
    obtain ⟨ob1,q1,q2,_⟩:=W6 h9 i ((m7 _ _).1 hf)
    rw[e1] at q1;cases q1
    rw[h5] at q2;cases q2
   ·rw[aQ4 hf] at h5
    obtain ⟨w2,w3⟩:=h.wr i ob0 c e1 e3 h5
    refine ⟨?_,w3⟩
    rintro (hb|⟨j,hj,ej⟩)
    ·exact w2 hb
    ·have:=h.inj i j c e3 ej
     subst this
     exact hf ((m7 _ _).2 hj)
 ·intro i obj c e e3 h5
  rcases h4 i obj e with ⟨rfl,rfl⟩|⟨hi,ob0,e1,rfl⟩
  ·rw[h8] at h5;cases h5
  ·by_cases hf:p5 i fz=true
   ·exact .inr ⟨i,(m7 _ _).1 hf,e3⟩
   ·rw[aQ4 hf] at h5
    exact .inl (h.fz i ob0 c e1 e3 h5)
 ·intro i c e
  obtain ⟨d1,d2,ob0,d3,d4⟩:=h.dom i c e
  refine ⟨d1,d2,?_⟩
  by_cases hi:i=o
  ·subst hi
   exact ⟨ob',by simp only;rw[H7 _ _ _ _ _ ht,aO9 rfl],hg⟩
  ·refine ⟨(if p5 i fz then ob0.froz else ob0),by simp only;rw[H7 _ _ _ _ _ ht,aQ4 hi,S4,d3];rfl,?_⟩
   split
   ·rw[cR];exact d4
   ·exact d4
 ·intro c hc
  have h3:c ≠ b:=fun e=>by subst e;exact hl hc
  simp only
  rw[ha,aQ4 h3]
  rcases hc with hc|⟨i,_,e⟩
  ·exact h.lt c hc
  ·obtain ⟨d1,_,ob0,d3,d4⟩:=h.dom i c e
   obtain ⟨b',blk0,m1,m2,_⟩:=h.obj i ob0 d3 d4
   rw[e] at m1;cases m1
   exact ⟨d1,blk0,m2⟩
 ·intro c hc
  have h3:c ≠ b:=fun e=>by subst e;exact hl hc
  simp only
  rw[ha,aQ4 h3]
  rcases hc with hc|⟨i,hi,e⟩
  ·obtain ⟨blk0,c1,c2⟩:=h.cl c hc
   exact ⟨blk0,c1,fun n j hj=> .inl (c2 n j hj)⟩
  ·obtain ⟨ob0,q1,q2,_⟩:=W6 h9 i hi
   obtain ⟨blk0,c1,c2⟩:=h.row_cl q1 q2 e
   exact ⟨blk0,c1,fun n j hj=> .inl (c2 n j hj)⟩
 ·intro c hc
  obtain ⟨u1,u2⟩:=h.un c hc
  have h3:c ≠ b:=fun e=>by subst e;exact wr3 hc
  exact ⟨u1,by simp only;rw[ha,aQ4 h3];exact u2⟩
 ·intro i obj e
  rcases h4 i obj e with ⟨rfl,rfl⟩|⟨hi,ob0,e1,rfl⟩
  ·exact ⟨(h.own i ob ho).1,h6⟩
  ·obtain ⟨o1,o2⟩:=h.own i ob0 e1
   refine ⟨o1,?_⟩
   split
   ·rw[MS];exact o2
   ·exact o2
 ·intro c blk0 e
  simp only at e ⊢
  rw[ha] at e
  split at e
  ·rename_i hc;subst hc;exact h.hb c blk hu
  ·exact h.hb c blk0 e
theorem J7:∀ (h:o7) (i j:Nat),j ≠ i->i7 (J1 h i) j=i7 h j
 | [],i,j,_=>rfl
 |(k,u)::r,i,j,hj=>by
  simp only[J1]
  split
  ·rename_i hk
   have:=j9.1 hk
   subst this
   rw[p7,aQ4 hj]
  ·rw[p7,p7,J7 r i j hj]
theorem dF:∀ (h:o7) (i j:Nat) (b:A0),i7 (J1 h i) j=some b->∃ c,i7 h j=some c
 | [],i,j,b,h=>by cases h
 |(k,u)::r,i,j,b,h=>by
  simp only[J1] at h
  rw[p7]
  split at h
  ·split
   ·exact ⟨_,rfl⟩
   ·exact ⟨_,h⟩
  ·rw[p7] at h
   split
   ·exact ⟨_,rfl⟩
   ·rename_i hj
    rw[aQ4 hj] at h
    exact dF r i j b h
theorem SR.del (h:SR C st s μ F) {o b:Nat} {ob:Obj} (ho:j7 st.own o=some ob) (hz:ob.fz=false) (hq:st.ro<=o) (hμ:μ o=some b):
  SR C ⟨J6 o st.own,st.next,st.ro⟩ {s with heap:=J1 s.heap b} (fun i=>if i=o then none else μ i) F/\VW.le (x8 C st s μ F) (x8 C ⟨J6 o st.own,st.next,st.ro⟩ {s with heap:=J1 s.heap b} (fun i=>if i=o then none else μ i) F)/\s.prot<=b:=by
 obtain ⟨wr2,wr1'⟩:=h.wr o ob b ho hμ hz
 obtain ⟨wr1,wr3⟩:=wr1' hq
 have h7:VW.le (x8 C st s μ F) (x8 C ⟨J6 o st.own,st.next,st.ro⟩ {s with heap:=J1 s.heap b} (fun i=>if i=o then none else μ i) F):=by
  refine ⟨fun a i=>?_,fun c hc=>hc,aQ5 _,fun i c _ e=>?_⟩
  ·obtain ⟨c,k,sp⟩:=a
   cases sp with
   |none=>rfl
   |some sp=>
    have h3:c ≠ b:=fun e=>by subst e;exact wr2 i
    simp only[p9,J7 _ _ _ h3]
  ·simp only at e
   split at e
   ·cases e
   ·exact e
 have h4:∀ i obj,j7 (J6 o st.own) i=some obj->i ≠ o/\j7 st.own i=some obj:=fun i obj e=>by
  rw[N2] at e
  split at e
  ·cases e
  ·rename_i hi;exact ⟨hi,e⟩
 have hd:∀ i c,i ≠ o->μ i=some c->c ≠ b:=fun i c hi e hc=>by subst hc;exact hi (h.inj i o c e hμ)
 refine ⟨⟨?_,?_,?_,?_,?_,?_,?_,?_,h.n0,?_,?_,h.pr,fun i c e hi=>?_⟩,h7,wr1⟩
 ·intro i obj e hn
  obtain ⟨hi,e1⟩:=h4 i obj e
  obtain ⟨c,blk0,m1,m2,m3⟩:=h.obj i obj e1 hn
  exact ⟨c,blk0,by rw[aQ4 hi];exact m1,by simp only;rw[J7 _ _ _ (hd i c hi m1)];exact m2,m3.mono h7⟩
 ·intro i obj c e e3 h5
  obtain ⟨hi,e1⟩:=h4 i obj e
  simp only[aQ4 hi] at e3
  exact h.wr i obj c e1 e3 h5
 ·intro i obj c e e3 h5
  obtain ⟨hi,e1⟩:=h4 i obj e
  simp only[aQ4 hi] at e3
  exact h.fz i obj c e1 e3 h5
 ·intro i j c e1 e2
  split at e1
  ·cases e1
  ·split at e2
   ·cases e2
   ·exact h.inj i j c e1 e2
 ·intro i c e
  split at e
  ·cases e
  ·rename_i hi
   obtain ⟨d1,d2,ob0,d3,d4⟩:=h.dom i c e
   exact ⟨d1,d2,ob0,by simp only;rw[N2,aQ4 hi];exact d3,d4⟩
 ·intro c hc
  have h3:c ≠ b:=fun e=>by subst e;exact wr2 hc
  rw[J7 _ _ _ h3]
  exact h.lt c hc
 ·intro c hc
  have h3:c ≠ b:=fun e=>by subst e;exact wr2 hc
  rw[J7 _ _ _ h3]
  exact h.cl c hc
 ·intro c hc
  obtain ⟨u1,u2⟩:=h.un c hc
  have h3:c ≠ b:=fun e=>by subst e;exact wr3 hc
  exact ⟨u1,by simp only;rw[J7 _ _ _ h3];exact u2⟩
 ·intro i obj e
  obtain ⟨hi,e1⟩:=h4 i obj e
  exact h.own i obj e1
 ·intro c blk0 e
  obtain ⟨c',e'⟩:=dF _ _ _ _ e
  exact h.hb c c' e'
 ·split at e
  ·cases e
  ·exact h.pb i c e hi
end
section
variable {C:C8} {st st':n9} {s:St} {μ:Nat->Option Nat} {F:Nat->Prop} {fr:D0} {frI:Fr} {v:V}
theorem lN {α:Type}:∀ {l:List α} {k:Nat} {cs r:List α},F8 l k cs=some r->r.length=l.length
 |l,k,[],r,h=>by
  have:r=l:=by cases l<;>cases k<;>simp[F8] at h<;>first|exact h|exact h.symm
  rw[this]
 | [],k,c::cs,r,h=>by cases k<;>simp[F8] at h
 |x::l,0,c::cs,r,h=>by
  simp only[F8,aG4] at h
  obtain ⟨r',h1,rfl⟩:=h
  simp[lN h1]
 |x::l,k+1,c::cs,r,h=>by
  simp only[F8,aG4] at h
  obtain ⟨r',h1,rfl⟩:=h
  simp[lN h1]
theorem fT {α:Type}:∀ {l:List α} {k:Nat} {cs r:List α} {ls vs:List Value},F8 l k cs=some r->ls.length=l.length->vs.length=cs.length->∃ rs,S6 ls k vs=some rs
 |l,k,[],r,ls,vs,h,h1,h2=>by
  have:=bA8 h2
  subst this
  exact ⟨ls,by cases ls<;>cases k<;>rfl⟩
 | [],k,c::cs,r,ls,vs,h,h1,h2=>by cases k<;>simp[F8] at h
 |x::l,k,c::cs,r,[],vs,h,h1,h2=>by simp at h1
 |x::l,k,c::cs,r,y::ls,[],h,h1,h2=>by simp at h2
 |x::l,0,c::cs,r,y::ls,z::vs,h,h1,h2=>by
  simp only[F8,aG4] at h
  obtain ⟨r',gl,rfl⟩:=h
  obtain ⟨rs,g1⟩:=fT gl (by simpa using h1) (by simpa using h2)
  exact ⟨z::rs,by simp[S6,g1]⟩
 |x::l,k+1,c::cs,r,y::ls,z::vs,h,h1,h2=>by
  simp only[F8,aG4] at h
  obtain ⟨r',gl,rfl⟩:=h
  obtain ⟨rs,g1⟩:=fT (cs:=c::cs) (vs:=z::vs) gl (by simpa using h1) (by simpa using h2)
  exact ⟨y::rs,by simp[S6,g1]⟩
theorem VW.le.refl (w:VW):VW.le w w:=⟨fun _ _=>rfl,fun _ h=>h,aQ5 _,fun _ _ _ h=>h⟩
theorem VW.le.trans {a b c:VW} (h:VW.le a b) (k:VW.le b c):VW.le a c:=
 ⟨fun x i=>(k.ld x (h.inF i)).trans (h.ld x i),fun x i=>k.F x (h.F x i),dJ2 h.nx k.nx,fun o x ho e=>h.μ o x ho (k.μ o x (dJ0 ho h.nx) e)⟩
def YJ (C:C8) (st:n9) (s:St) (μ:Nat->Option Nat) (F:Nat->Prop) (r:Option (Value × St)) (v:V) (st':n9):Prop:=
 ∃ vI s' μ' F',r=some (vI,s')/\SR C st' s' μ' F'/\f9 (x8 C st' s' μ' F') v vI/\VW.le (x8 C st s μ F) (x8 C st' s' μ' F')/\s'.prot=s.prot/\s.next<=s'.next/\∀ b,F' b->F b\/s.prot<=b
theorem N3 {b k:Nat} {blk:A0} {vs cs:List Value} (hb:i7 s.heap b=some blk) (hp:s.prot<=b) (h1:vs.all E0=true) (hl:S6 blk.cells k vs=some cs):
  V8 s ⟨b,k,some 0⟩ vs=some {s with heap:=L6 s.heap b {blk with cells:=cs}}:=by
 simp only[V8,hb,aI2]
 rw[aO9 (by rw[bA2];exact hp),aO9 h1,hl]
 rfl
theorem DC {E:G3} {op:M8} {r:Option (Value × St)} (h1:d9 E frI s op=none) (h2:s7 E frI s op=r):step E frI s op=r:=by
 simp only[step,h1,h2]
theorem BC {i j:Nat}:Nat.beq i j=false↔i ≠ j:=by rw[<- cB6,j9]
theorem LO {i j:Nat}:(!Nat.ble i j)=false↔i<=j:=by
 rw[Bool.not_eq_false',bA2]
def cW3 (s:St) (n:Nat) (aI uI:Value):Option (Value × St):=
 match aI with
 | .pointer (some a)=>if Nat.beq uI.cells.toList.length n then (V8 s a uI.cells.toList).map (.tuple #[],·) else none
 |_=>none
def aF2 (E:G3) (s:St) (e:Nat) (dI xI:Value):Option (Value × St):=
 match dI with
 | .slice a n _=>(lenA xI).bind fun m=>(s6 E s.heap e (Nat.min m n) xI).bind fun cs=>
   match a with
   |some a=>(V8 s a cs).map (.int .i64 (Nat.min m n),·)
   |none=>some (.int .i64 (Nat.min m n),s)
 |_=>none
theorem aZ7 (h:SR C st s μ F) {n:Nat} {a u:V} {aI uI:Value} (ha:f9 (x8 C st s μ F) a aI) (hu:f9 (x8 C st s μ F) u uI) (hs:OU st n a u=some st'):
  YJ C st s μ F (cW3 s n aI uI) (.tup []) st':=by
 simp only[OU,aG3] at hs
 obtain ⟨cs,hc,hs⟩:=hs
 split at hs
 case isFalse=>cases hs
 rename_i hn
 obtain ⟨c1,c2⟩:=jL hu hc
 have g0:=c1.one c2
 split at hs
 case h_2=>cases hs
 rename_i o k
 split at hs
 ·cases hs
 rename_i h5
 simp only[cB6,LO] at h5
 simp only[f9] at ha
 obtain ⟨_,b',rfl,q⟩:=ha
 have j2:∀ w:VW,f9 w (.tup []) (.tuple #[]):=fun w=>by simp only[f9,i6];exact ⟨[],rfl,rfl⟩
 have fin:∀ {ob:Obj} {b:Nat} {blk:A0} {fz:List Nat} {ob':Obj} {cs':List Value},j7 st.own o=some ob->ob.fz=false->μ o=some b->i7 s.heap b=some blk->D4 st.ro st.own fz=true->o ∉ fz->ob'.none=false->ob'.fz=false->ob'.ok=true->
   S6 blk.cells k uI.cells.toList=some cs'->(∀ w',VW.le (x8 C st s μ F) w'->Fin (x8 C st s μ F) w' fz->LdX s.heap (x8 C st s μ F) w' fz->kB w' ob' {blk with cells:=cs'})->st'=⟨A3 (D7 fz st.own) o ob',st.next,st.ro⟩->
   YJ C st s μ F (if Nat.beq uI.cells.toList.length n then (V8 s ⟨b',k,some 0⟩ uI.cells.toList).map (.tuple #[],·) else none) (.tup []) st':=by
  intro ob b blk fz ob' cs' e1 e2 e3 e4 e5 e6 e7 e8 e9 e10 e11 e12
  have:=q b e3
  subst this
  obtain ⟨g1,g2,g3⟩:=h.upd e1 e2 h5 e3 e4 e5 e6 e7 e8 e9 e11
  subst e12
  refine ⟨.tuple #[],_,μ,cB μ F fz,?_,g1,j2 _,g2,rfl,aQ5 _,fun c j3=>h.fin_ge e5 j3⟩
  rw[c1.length,aO9 hn,N3 e4 g3 g0 e10]
  rfl
 split at hs
 ·rename_i t e0 l ho
  simp only[aG4] at hs
  obtain ⟨l',hl,rfl⟩:=hs
  obtain ⟨b,blk,m1,m2,m3⟩:=h.obj o _ ho rfl
  obtain ⟨rs,r1,r2⟩:=nE hl m3.2.2.2 c1
  exact fin (fz:= []) (ob':= .box t e0 l') ho rfl m1 m2 rfl (by simp) rfl rfl rfl r1 (fun w' k1 k2 k3=>⟨m3.1,m3.2.1,m3.2.2.1,r2.mono k1⟩) (by rw[y9])
 ·rename_i t e g z l ho
  split at hs
  ·cases hs
  rename_i hq
  simp only[cW5,cL0,not_or,cB6,Bool.not_eq_false] at hq
  obtain ⟨⟨hz,h9⟩,hj⟩:=hq
  simp only[aG3,aG4] at hs
  obtain ⟨ds,hd,l',hl,rfl⟩:=hs
  obtain ⟨b,blk,m1,m2,m3⟩:=h.obj o _ ho rfl
  have gm:∀ w',VW.le (x8 C st s μ F) w'->Fin (x8 C st s μ F) w' (nS cs)->LdX s.heap (x8 C st s μ F) w' (nS cs)->∃ rs,S6 blk.cells k uI.cells.toList=some rs/\m6 w' l' rs:=fun w' k1 k2 k3=>Q4 hl (m3.2.2.2.mono k1) (xW h.hr k1 c1 hd k2 k3).1
  have h6:∃ rs,S6 blk.cells k uI.cells.toList=some rs:=fT hl m3.2.2.2.length (by rw[c1.length,gU hd])
  obtain ⟨rs,gf⟩:=h6
  refine fin (fz:=nS cs) (ob':= .row t e g false l') ho hz m1 m2 hj (fun hm=>by have:=(m7 _ _).2 hm;rw[h9] at this;cases this) rfl rfl ?_ gf (fun w' k1 k2 k3=>?_) rfl
  ·exact M1 hl (h.own o _ ho).2 (DK hd)
  ·obtain ⟨rs',q1,q2⟩:=gm w' k1 k2 k3
   rw[gf] at q1;cases q1
   exact ⟨m3.1,m3.2.1,m3.2.2.1,q2⟩
 ·rename_i t e z l ho
  split at hs
  ·cases hs
  rename_i hq
  simp only[cW5,cL0,not_or,cB6,Bool.not_eq_false] at hq
  obtain ⟨⟨⟨hz,h9⟩,j4⟩,hj⟩:=hq
  simp only[aG3,aG4] at hs
  obtain ⟨ds,hd,l',hl,rfl⟩:=hs
  have g5:l ≠ []/\l'.length=l.length:=by
   refine ⟨fun e0=>?_,lN hl⟩
   subst e0
   cases ds with
   |nil=>have:=gU hd;cases cs with|nil=>cases j4|cons=>simp at this
   |cons=>cases k<;>simp[F8] at hl
  obtain ⟨b,blk,m1,m2,m3⟩:=h.obj o _ ho (by cases l with|nil=>exact absurd rfl g5.1|cons=>rfl)
  have gm:∀ w',VW.le (x8 C st s μ F) w'->Fin (x8 C st s μ F) w' (nS cs)->LdX s.heap (x8 C st s μ F) w' (nS cs)->∃ rs,S6 blk.cells k uI.cells.toList=some rs/\m6 w' l' rs:=fun w' k1 k2 k3=>Q4 hl (m3.2.2.2.mono k1) (xW h.hr k1 c1 hd k2 k3).1
  have h6:∃ rs,S6 blk.cells k uI.cells.toList=some rs:=fT hl m3.2.2.2.length (by rw[c1.length,gU hd])
  obtain ⟨rs,gf⟩:=h6
  refine fin (fz:=nS cs) (ob':= .gro t e false l') ho hz m1 m2 hj (fun hm=>by have:=(m7 _ _).2 hm;rw[h9] at this;cases this) ?_ rfl ?_ gf (fun w' k1 k2 k3=>?_) rfl
  ·cases l' with
   |nil=>exact absurd (bA8 g5.2.symm) g5.1
   |cons=>rfl
  ·exact M1 hl (h.own o _ ho).2 (DK hd)
  ·obtain ⟨rs',q1,q2⟩:=gm w' k1 k2 k3
   rw[gf] at q1;cases q1
   exact ⟨m3.1,m3.2.1,m3.2.2.1,q2⟩
 ·cases hs
theorem uJ {ro o:Nat} {H:E9}:∀ {fz:List Nat},D4 ro H fz=true->p5 o fz=false->D4 ro (J6 o H) fz=true
 | [],_,_=>rfl
 |i::r,h,hn=>by
  simp only[D4,aO3] at h ⊢
  simp only[p5] at hn
  split at hn
  ·cases hn
  rename_i hi
  rw[j9] at hi
  refine ⟨⟨h.1.1,?_⟩,uJ h.2 hn⟩
  rw[N2,aQ4 (fun e=>hi e.symm)]
  exact h.1.2
theorem SR.grow (h:SR C st s μ F) {o b:Nat} {ob:Obj} {blk:A0} (ho:j7 st.own o=some ob) (hz:ob.fz=false) (h5:st.ro<=o) (hμ:μ o=some b) (hb:i7 s.heap b=some blk) {t:TypeId} {e m:Nat} {l:List D} {cs:List Value} {fz:List Nat}
  (hl:l ≠ []) (h7:Q1 l=true) (hm:m ≠ 0) (hj:D4 st.ro st.own fz=true) (h9:p5 o fz=false) (hr:∀ w',VW.le (x8 C st s μ F) w'->Fin (x8 C st s μ F) w' fz->LdX s.heap (x8 C st s μ F) w' fz->m6 w' l cs):
  YJ C st s μ F (some (.slice (some ⟨s.next,0,some 0⟩) m (A5+m),St.push {s with heap:=J1 s.heap b} [⟨cs,e,true,t⟩])) (.gr 2 st.next m) ⟨(st.next,.gro t e false l)::D7 fz (J6 o st.own),st.next+1,st.ro⟩/\s.prot<=b:=by
 obtain ⟨d1,d2,d3⟩:=h.del ho hz h5 hμ
 have hP:kC (J1 s.heap b) (x8 C ⟨J6 o st.own,st.next,st.ro⟩ {s with heap:=J1 s.heap b} (fun i=>if i=o then none else μ i) F) s.next (.gr 2 st.next m) (some (.gro t e false l)) fz (.slice (some ⟨s.next,0,some 0⟩) m (A5+m)) [⟨cs,e,true,t⟩]:=
  ⟨by cases l with|nil=>exact absurd rfl hl|cons=>rfl,rfl,h7,_,rfl,fun w' k1 k2 k3 k4 k5=>⟨.gr_new k4 k5 m hm,rfl,rfl,rfl,hr w' (d2.trans k1) (fun i hi c e=>by
   refine k2 i hi c ?_
   have gg:i ≠ o:=fun e=>by subst e;have:=(m7 i fz).2 hi;rw[h9] at this;cases this
   simp only[aQ4 gg];exact e) (fun i hi c e k sp bb j5=>by
   have gg:i ≠ o:=fun e=>by subst e;have:=(m7 i fz).2 hi;rw[h9] at this;cases this
   have g4:c ≠ b:=fun ec=>by subst ec;exact gg (h.inj i o c e hμ)
   exact k3 i hi c (by simp only[aQ4 gg];exact e) k sp bb (by rw[J7 _ _ _ g4];exact j5))⟩⟩
 obtain ⟨p1,p2,p3,p4⟩:=d1.push hP (uJ hj h9)
 exact ⟨⟨_,_,_,_,rfl,p1,p2,d2.trans p3,rfl,by simp[St.push],p4⟩,d3⟩
theorem R3 {t:TypeId} {e:Nat} {z:Bool} {l:List D} (h:l ≠ []):(Obj.gro t e z l).none=false:=by
 cases l with
 |nil=>exact absurd rfl h
 |cons=>rfl
theorem SR.drop0 (h:SR C st s μ F) {o:Nat} {ob:Obj} (ho:j7 st.own o=some ob) (hn:ob.none=true):SR C ⟨J6 o st.own,st.next,st.ro⟩ s μ F:=by
 have g8:∀ i obj,j7 (J6 o st.own) i=some obj->i ≠ o/\j7 st.own i=some obj:=fun i obj e=>by
  rw[N2] at e
  split at e
  ·cases e
  ·rename_i hi;exact ⟨hi,e⟩
 refine ⟨fun i obj e hh=>h.obj i obj (g8 i obj e).2 hh,fun i obj b e=>h.wr i obj b (g8 i obj e).2,fun i obj b e=>h.fz i obj b (g8 i obj e).2,h.inj,fun i b e=>?_,h.lt,h.cl,h.un,h.n0,fun i obj e=>h.own i obj (g8 i obj e).2,h.hb,h.pr,h.pb⟩
 obtain ⟨d1,d2,ob',d3,d4⟩:=h.dom i b e
 refine ⟨d1,d2,ob',?_,d4⟩
 simp only
 rw[N2,aQ4]
 ·exact d3
 ·intro hi
  subst hi
  rw[ho] at d3
  cases d3
  rw[hn] at d4
  cases d4
theorem SR.rename (h:SR C st s μ F) {o:Nat} {ob:Obj} (ho:j7 st.own o=some ob) (h5:st.ro<=o):
  SR C ⟨(st.next,ob)::J6 o st.own,st.next+1,st.ro⟩ s (fun i=>if i=st.next then μ o else if i=o then none else μ i) F/\VW.le (x8 C st s μ F) (x8 C ⟨(st.next,ob)::J6 o st.own,st.next+1,st.ro⟩ s (fun i=>if i=st.next then μ o else if i=o then none else μ i) F):=by
 have jn:o<st.next:=(h.own o ob ho).1
 have h8:VW.le (x8 C st s μ F) (x8 C ⟨(st.next,ob)::J6 o st.own,st.next+1,st.ro⟩ s (fun i=>if i=st.next then μ o else if i=o then none else μ i) F):=by
  refine ⟨fun _ _=>rfl,fun _ h=>h,Nat.le_succ _,fun i b hi e=>?_⟩
  simp only at hi e
  rw[aQ4 (by omega)] at e
  split at e
  ·cases e
  ·exact e
 have g8:∀ i obj,j7 ((st.next,ob)::J6 o st.own) i=some obj->(i=st.next/\obj=ob)\/(i ≠ st.next/\i ≠ o/\j7 st.own i=some obj):=fun i obj e=>by
  rw[n5] at e
  split at e
  ·rename_i hi;cases e;exact .inl ⟨hi,rfl⟩
  ·rename_i hi
   rw[N2] at e
   split at e
   ·cases e
   ·rename_i gn;exact .inr ⟨hi,gn,e⟩
 have gb:∀ i b,(if i=st.next then μ o else if i=o then none else μ i)=some b->(i=st.next/\μ o=some b)\/(i ≠ st.next/\i ≠ o/\μ i=some b):=fun i b e=>by
  split at e
  ·rename_i hi;exact .inl ⟨hi,e⟩
  ·rename_i hi
   split at e
   ·cases e
   ·rename_i gn;exact .inr ⟨hi,gn,e⟩
 refine ⟨⟨?_,?_,?_,?_,?_,h.lt,h.cl,h.un,h.n0,?_,h.hb,h.pr,?_⟩,h8⟩
 ·intro i obj e hn
  rcases g8 i obj e with ⟨rfl,rfl⟩|⟨h1,h2,e1⟩
  ·obtain ⟨b,blk,m1,m2,m3⟩:=h.obj o _ ho hn
   exact ⟨b,blk,by rw[aO9 rfl];exact m1,m2,m3.mono h8⟩
  ·obtain ⟨b,blk,m1,m2,m3⟩:=h.obj i obj e1 hn
   exact ⟨b,blk,by rw[aQ4 h1,aQ4 h2];exact m1,m2,m3.mono h8⟩
 ·intro i obj b e e2 hz
  rcases g8 i obj e with ⟨rfl,rfl⟩|⟨h1,h2,e1⟩
  ·rcases gb _ b e2 with ⟨_,e3⟩|⟨h3,_⟩
   ·obtain ⟨q1,q2⟩:=h.wr o _ b ho e3 hz
    exact ⟨q1,fun _=>q2 h5⟩
   ·exact absurd rfl h3
  ·rcases gb i b e2 with ⟨h3,_⟩|⟨_,_,e3⟩
   ·exact absurd h3 h1
   ·exact h.wr i obj b e1 e3 hz
 ·intro i obj b e e2 hz
  rcases g8 i obj e with ⟨rfl,rfl⟩|⟨h1,h2,e1⟩
  ·rcases gb _ b e2 with ⟨_,e3⟩|⟨h3,_⟩
   ·exact h.fz o _ b ho e3 hz
   ·exact absurd rfl h3
  ·rcases gb i b e2 with ⟨h3,_⟩|⟨_,_,e3⟩
   ·exact absurd h3 h1
   ·exact h.fz i obj b e1 e3 hz
 ·intro i j b e e'
  rcases gb i b e with ⟨h1,e1⟩|⟨h1,h2,e1⟩<;>rcases gb j b e' with ⟨h3,e3⟩|⟨h3,h4,e3⟩
  ·rw[h1,h3]
  ·exact absurd (h.inj o j b e1 e3).symm h4
  ·exact absurd (h.inj i o b e1 e3) h2
  ·exact h.inj i j b e1 e3
 ·intro i b e
  rcases gb i b e with ⟨rfl,e1⟩|⟨h1,h2,e1⟩
  ·obtain ⟨d1,d2,ob',d3,d4⟩:=h.dom o b e1
   rw[ho] at d3
   cases d3
   exact ⟨d1,by simp,ob,by simp only;rw[n5,aO9 rfl],d4⟩
  ·obtain ⟨d1,d2,ob',d3,d4⟩:=h.dom i b e1
   exact ⟨d1,by simp only;omega,ob',by simp only;rw[n5,aQ4 h1,N2,aQ4 h2];exact d3,d4⟩
 ·intro i obj e
  rcases g8 i obj e with ⟨rfl,rfl⟩|⟨h1,h2,e1⟩
  ·exact ⟨by simp,(h.own o _ ho).2⟩
  ·exact ⟨by have:=(h.own i obj e1).1;simp only;omega,(h.own i obj e1).2⟩
 ·intro i b e hr
  rcases gb i b e with ⟨rfl,e1⟩|⟨h1,h2,e1⟩
  ·exact h.pb o b e1 h5
  ·exact h.pb i b e1 hr
theorem aX7 {H:E9} {e:Nat} {v:V} {r:List D × List Nat} (h:M6 H e 0 v=some r):r.2= []:=by
 unfold M6 at h
 split at h
 ·split at h
  ·cases h;rfl
  ·cases h
 ·split at h
  ·cases h;rfl
  ·cases h
 ·split at h
  ·split at h
   ·cases h;rfl
   ·cases h
  ·split at h
   ·cases h;rfl
   ·cases h
  ·split at h
   ·simp only[aG4] at h
    obtain ⟨ds,_,rfl⟩:=h
    simp[nS]
   ·cases h
  ·cases h
 ·split at h
  ·split at h
   ·cases h;rfl
   ·cases h
  ·cases h
 ·split at h
  ·cases h;rfl
  ·cases h
 ·split at h
  ·cases h;rfl
  ·cases h
 ·cases h
def LL (E:G3) (s:St) (t:TypeId) (e b:Nat) (x y:Value):Option (Value × St):=
 match bB E s t e b x y with
 |some (v,bs)=>some (v,s.push bs)
 |none=>kH E s t e b x y
theorem mL {E:G3} {t:TypeId} {e b:Nat} {x y:Value} (h:bB E s t e b x y=none):LL E s t e b x y=kH E s t e b x y:=by simp only[LL,h]
theorem bU8 (h:SR C st s μ F) {t:TypeId} {e b:Nat} {x y:V} {xI yI:Value} (hx:f9 (x8 C st s μ F) x xI) (hy:f9 (x8 C st s μ F) y yI) (hs:wX st t e b x y=some (v,st')):
  YJ C st s μ F (LL C.E s t e b xI yI) v st':=by
 simp only[wX,aG3] at hs
 obtain ⟨m,hm,hs⟩:=hs
 obtain ⟨new,go,hs⟩:=hs
 split at hs
 case isFalse=>cases hs
 rename_i h7
 simp only[aO3,cL0,BC] at h7
 obtain ⟨⟨h7,gh⟩,hj⟩:=h7
 have h6:=rE hy hm
 have gi:∀ k,T6 y=some k->m<=k:=fun k hk=>by rw[hm] at hk;cases hk;exact aQ5 _
 obtain ⟨cs,c1,c0,g0,c2⟩:=Y5 h.hr hy go gi
 have gp:=WE go gi
 have gj:m ≠ 0->new.1 ≠ []:=fun g7 e0=>by
  rw[e0] at gp
  have:=Nat.mul_pos (cZ7 g7) (cZ7 gh)
  simp at gp;omega
 split at hs
 ·rename_i s' o n
  split at hs
  case h_2=>cases hs
  rename_i t' e' z l ho
  split at hs
  case isFalse=>cases hs
  rename_i hc
  simp only[aO3,cW5,cL0,BC,bA2] at hc
  obtain ⟨⟨⟨⟨⟨⟨⟨⟨h5,hz⟩,gk⟩,ht⟩,he⟩,hl⟩,gc⟩,gd⟩,h9⟩:=hc
  have ht:=j9.1 ht
  have he:=j9.1 he
  have hl:=j9.1 hl
  subst ht he hz
  have gk:s'=2\/n ≠ 0:=gk.imp j9.1 id
  cases hs
  have j6:Q1 (l++new.1)=true:=by
   have:=(h.own o _ ho).2
   simp only[Obj.ok] at this
   simp only[Q1,dD1,aO3];exact ⟨this,h7⟩
  by_cases g7:m=0
  ·subst g7
   have g6:new.1= []:=bA8 (by rw[gp];simp)
   have jo:cs= []:=bA8 (by rw[c0,g6];rfl)
   have j8:new.2= []:=aX7 go
   rw[g6,dC9,cZ5,j8,y9]
   obtain ⟨q1,q2⟩:=h.rename ho h5
   have ja:f9 (x8 C ⟨(st.next,.gro t' e' false l)::J6 o st.own,st.next+1,st.ro⟩ s (fun i=>if i=st.next then μ o else if i=o then none else μ i) F) (.gr 2 st.next n) xI:=by
    simp only[f9] at hx ⊢
    refine ⟨Nat.lt_succ_self _,?_⟩
    rcases hx with ⟨_,⟨hn,rfl|⟨gq,_⟩⟩|⟨hn,b',rfl,q⟩⟩
    ·exact .inl ⟨hn,.inl rfl⟩
    ·exact absurd gq (by rcases gk with h|h;exact fun h2=>h2 h;exact absurd hn h)
    ·exact .inr ⟨hn,b',rfl,fun b hb=>q b (by simpa using hb)⟩
   have gs:LL C.E s t' e' b xI yI=some (xI,s):=by
    have hc:∃ a c,xI= .slice a n c/\n<=B5 c:=by
     simp only[f9] at hx
     rcases hx with ⟨_,⟨rfl,rfl|⟨_,a,c,rfl,_⟩⟩|⟨hn,b',rfl,_⟩⟩
     ·exact ⟨_,_,rfl,bA5 _⟩
     ·exact ⟨_,_,rfl,bA5 _⟩
     ·exact ⟨_,_,rfl,by rw[M0 (by omega)];omega⟩
    obtain ⟨a,c,rfl,hc⟩:=hc
    simp only[LL,bB,h6,aI2]
    rw[aO9 (show Nat.beq 0 0=true from rfl),aO9 (by rw[bA2];exact hc)]
    rfl
   rw[gs]
   exact ⟨xI,s,_,F,rfl,q1,ja,q2,rfl,aQ5 _,fun b hb=> .inl hb⟩
  have h0:¬ Nat.beq m 0=true:=by rw[j9];exact g7
  simp only[f9] at hx
  rcases hx with ⟨_,⟨hn,hx⟩|⟨g6,b',rfl,q⟩⟩
  ·have jb:xI= .slice none 0 0:=by
    rcases hx with hx|⟨gq,_⟩
    ·exact hx
    ·exact absurd gq (by rcases gk with h|h;exact fun h2=>h2 h;exact absurd hn h)
   subst jb hn
   have g5:l= []:=bA8 (by rw[hl];simp)
   subst g5
   have d1:=h.drop0 ho rfl
   have hP:kC s.heap (x8 C ⟨J6 o st.own,st.next,st.ro⟩ s μ F) s.next (.gr 2 st.next m) (some (.gro t' e' false new.1)) new.2 (.slice (some ⟨s.next,0,some 0⟩) m (A5+m)) [⟨cs,e',true,t'⟩]:=
    ⟨R3 (gj g7),rfl,h7,_,rfl,fun w' k1 k2 k3 k4 k5=>⟨.gr_new k4 k5 m g7,rfl,rfl,rfl,c2 w' k1 k2 k3⟩⟩
   obtain ⟨p1,p2,p3,p4⟩:=d1.push hP (uJ hj h9)
   have gs:LL C.E s t' e' b (.slice none 0 0) yI=some (.slice (some ⟨s.next,0,some 0⟩) m (A5+m),s.push [⟨cs,e',true,t'⟩]):=by
    have:bB C.E s t' e' b (.slice none 0 0) yI=some (.slice (some ⟨s.next,0,some 0⟩) m (A5+m),[⟨cs,e',true,t'⟩]):=by
     simp only[bB,h6,aI2,cZ9]
     rw[cZ9] at gc gd
     rw[aQ4 h0,aO9 (by simp only[aO3,bA2,bA6];exact ⟨⟨⟨gc,gd⟩,by unfold A5;omega⟩,by omega⟩),c1]
     simp only[aI2,s6]
     rfl
    simp only[LL,this]
   rw[gs,dJ3,cZ9]
   exact ⟨_,_,_,_,rfl,p1,p2,p3,rfl,by simp[St.push],p4⟩
  have gz:l ≠ []:=fun e0=>by
   rw[e0] at hl
   have:=Nat.mul_pos (cZ7 g6) (cZ7 gh)
   simp at hl;omega
  obtain ⟨b0,blk,m1,m2,m3⟩:=h.obj o _ ho (R3 gz)
  have:=q b0 m1
  subst this
  have g9:=m3.2.2.2.length
  obtain ⟨g1,g2⟩:=h.grow (t:=t') (e:=e') (m:=n+m) (l:=l++new.1) (fz:=new.2) (cs:=blk.cells++cs) ho rfl h5 m1 m2 (by simp[gz]) j6 (by omega) hj h9 (fun w' k1 k2 k3=>(m3.2.2.2.mono k1).append (c2 w' k1 k2 k3))
  have j0:Nat.blt (A5+n) A5=false:=by rw[<- cB6,bA6];omega
  rw[mL (by
   simp only[bB,h6,aI2]
   rw[aQ4 h0,aQ4 (by simp[j0])])]
  ·have:kH C.E s t' e' b (.slice (some ⟨b',0,some 0⟩) n (A5+n)) yI=some (.slice (some ⟨s.next,0,some 0⟩) (n+m) (A5+(n+m)),St.push {s with heap:=J1 s.heap b'} [⟨blk.cells++cs,e',true,t'⟩]):=by
    simp only[kH,h6,aI2]
    rw[aQ4 h0,aO9 (by simp only[aO3,bA2];exact ⟨gc,gd⟩),c1]
    simp only[aI2]
    rw[aO9 g0,aQ4 (by rw[j0];simp),aO9 (by rw[bA2];exact g2),m2]
    simp only[aI2]
    rw[aO9 (by simp only[aO3];rw[m3.1,m3.2.1,m3.2.2.1,g9,hl];refine ⟨⟨⟨⟨rfl,j9.2 rfl⟩,j9.2 rfl⟩,j9.2 (by omega)⟩,j9.2 rfl⟩)]
    rfl
   rw[this];exact g1
 ·rename_i o k n c
  split at hs
  case h_2=>cases hs
  rename_i t' e' g z l ho
  split at hs
  ·cases hs
  rename_i hq
  simp only[cW5,not_or,cB6,LO] at hq
  obtain ⟨⟨⟨⟨h5,hz⟩,jc⟩,gc⟩,gd⟩:=hq
  subst hz
  have g7:m ≠ 0:=BC.1 jc
  have h0:¬ Nat.beq m 0=true:=by rw[j9];exact g7
  replace gj:=gj g7
  simp only[f9] at hx
  obtain ⟨_,jd,b',rfl,q⟩:=hx
  obtain ⟨b0,blk,m1,m2,m3⟩:=h.obj o _ ho rfl
  have:=q b0 m1
  subst this
  have g9:=m3.2.2.2.length
  split at hs
  ·rename_i g4
   split at hs
   case isFalse=>cases hs
   rename_i h8
   simp only[aO3,cL0] at h8
   obtain ⟨h8,h9⟩:=h8
   simp only[aG4] at hs
   obtain ⟨l',hw,hs⟩:=hs
   cases hs
   obtain ⟨rs,r1⟩:=fT hw g9 c0
   have r2:∀ w',VW.le (x8 C st s μ F) w'->Fin (x8 C st s μ F) w' new.2->LdX s.heap (x8 C st s μ F) w' new.2->m6 w' l' rs:=fun w' k1 k2 k3=>by
    obtain ⟨rs',q1,q2⟩:=Q4 hw (m3.2.2.2.mono k1) (c2 w' k1 k2 k3)
    rw[r1] at q1;cases q1;exact q2
   obtain ⟨g1,g2,g3⟩:=h.upd (fz:=new.2) (ob':= .row t' e' g false l') (blk':={blk with cells:=rs}) ho rfl h5 m1 m2 hj (fun hm=>by have:=(m7 _ _).2 hm;rw[h9] at this;cases this) rfl rfl (M1 hw (h.own o _ ho).2 h7) (fun w' k1 k2 k3=>⟨m3.1,m3.2.1,m3.2.2.1,r2 w' k1 k2 k3⟩)
   rw[bA2] at h8
   rw[mL (by
    simp only[bB,h6,aI2]
    rw[aQ4 h0,aQ4 (by
     have:Nat.blt c (n+m)=false:=by rw[<- cB6,bA6];omega
     simp[this])])]
   ·have:kH C.E s t e b (.slice (some ⟨b',k,some 0⟩) n c) yI=some (.slice (some ⟨b',k,some 0⟩) (n+m) c,{s with heap:=L6 s.heap b' {blk with cells:=rs}}):=by
     simp only[kH,h6,aI2]
     rw[aQ4 h0,aO9 (by simp only[aO3,bA2];exact ⟨gc,gd⟩),c1]
     simp only[aI2]
     rw[aO9 g0,aO9 g4,aO9 (by rw[bA2];exact h8)]
     have gu:=N3 (s:=s) m2 g3 g0 r1
     simp only[C6]
     rw[gu]
     rfl
    rw[this]
    refine ⟨_,_,μ,_,rfl,g1,?_,g2,rfl,aQ5 _,fun c hc=>h.fin_ge hj hc⟩
    simp only[f9]
    rw[bA6] at g4
    exact ⟨‹_›,by unfold I4;rw[H1 g4];exact h8,b',rfl,q⟩
  ·rename_i g4
   split at hs
   case isFalse=>
    split at hs
    case isFalse=>cases hs
    rename_i h8
    simp only[aO3,cL0] at h8
    obtain ⟨⟨h8,h9⟩,je⟩:=h8
    simp only[aG4] at hs
    obtain ⟨l',hw,hs⟩:=hs
    cases hs
    obtain ⟨rs,r1⟩:=fT hw g9 c0
    have r2:∀ w',VW.le (x8 C st s μ F) w'->Fin (x8 C st s μ F) w' new.2->LdX s.heap (x8 C st s μ F) w' new.2->m6 w' l' rs:=fun w' k1 k2 k3=>by
     obtain ⟨rs',q1,q2⟩:=Q4 hw (m3.2.2.2.mono k1) (c2 w' k1 k2 k3)
     rw[r1] at q1;cases q1;exact q2
    obtain ⟨g1,g2,g3⟩:=h.upd (fz:=new.2) (ob':= .row t' e' g false l') (blk':={blk with cells:=rs}) ho rfl h5 m1 m2 hj (fun hm=>by have:=(m7 _ _).2 hm;rw[h9] at this;cases this) rfl rfl (M1 hw (h.own o _ ho).2 h7) (fun w' k1 k2 k3=>⟨m3.1,m3.2.1,m3.2.2.1,r2 w' k1 k2 k3⟩)
    rw[bA2] at h8
    have jf:Nat.blt c A5=false:=by simp only[cB6] at g4;exact g4
    rw[mL (by
     simp only[bB,h6,aI2]
     rw[aQ4 h0,aQ4 (by simp[jf])])]
    ·have:kH C.E s t e b (.slice (some ⟨b',k,some 0⟩) n c) yI=some (.slice (some ⟨b',k,some 0⟩) (n+m) c,{s with heap:=L6 s.heap b' {blk with cells:=rs}}):=by
      simp only[kH,h6,aI2]
      rw[aQ4 h0,aO9 (by simp only[aO3,bA2];exact ⟨gc,gd⟩),c1]
      simp only[aI2]
      rw[aO9 g0,aQ4 g4,aO9 (by rw[bA2];exact g3),m2]
      simp only[aI2]
      rw[aQ4 (by
       rw[m3.1,m3.2.1,m3.2.2.1,g9,je]
       exact Bool.false_ne_true),aO9 (by rw[bA2];exact h8)]
      have gu:=N3 (s:=s) m2 g3 g0 r1
      simp only[C6]
      rw[gu]
      rfl
     rw[this]
     refine ⟨_,_,μ,_,rfl,g1,?_,g2,rfl,aQ5 _,fun c hc=>h.fin_ge hj hc⟩
     simp only[f9]
     rw[bA6] at g4
     exact ⟨‹_›,by unfold I4;rw[M0 (by omega)];exact h8,b',rfl,q⟩
   rename_i hc
   simp only[aO3,cL0] at hc
   obtain ⟨⟨⟨⟨⟨hg,ht⟩,he⟩,hk⟩,hc⟩,h9⟩:=hc
   have ht:=j9.1 ht
   have he:=j9.1 he
   have hk:=j9.1 hk
   have hc:=j9.1 hc
   subst ht he hg hc
   cases hs
   obtain ⟨g1,g2⟩:=h.grow (t:=t') (e:=e') (m:=n+m) (l:=l.drop k++new.1) (fz:=new.2) (cs:=blk.cells.drop k++cs) ho rfl h5 m1 m2 (by simp[gj]) (by
    have:=(h.own o _ ho).2
    simp only[Obj.ok,Q1,bB3] at this
    simp only[Q1,dD1,aO3,bB3]
    exact ⟨fun d hd=>this d (List.mem_of_mem_drop hd),by simpa only[Q1,bB3] using h7⟩) (by omega) hj h9 (fun w' k1 k2 k3=>((m3.2.2.2.drop k).mono k1).append (c2 w' k1 k2 k3))
   rw[mL (by
    simp only[bB,h6,aI2]
    rw[aQ4 h0,aQ4 (by simp only[cB6] at g4;simp[g4])])]
   ·have:kH C.E s t' e' b (.slice (some ⟨b',k,some 0⟩) n (A5+n)) yI=some (.slice (some ⟨s.next,0,some 0⟩) (n+m) (A5+(n+m)),St.push {s with heap:=J1 s.heap b'} [⟨blk.cells.drop k++cs,e',true,t'⟩]):=by
     simp only[kH,h6,aI2]
     rw[aQ4 h0,aO9 (by simp only[aO3,bA2];exact ⟨gc,gd⟩),c1]
     simp only[aI2]
     rw[aO9 g0,aQ4 g4,aO9 (by rw[bA2];exact g2),m2]
     simp only[aI2]
     rw[aO9 (by simp only[aO3];rw[m3.1,m3.2.1,m3.2.2.1,g9];exact ⟨⟨⟨⟨rfl,j9.2 rfl⟩,j9.2 rfl⟩,j9.2 hk⟩,j9.2 rfl⟩)]
    rw[this];exact g1
 ·cases hs
theorem bV0 (h:SR C st s μ F) {e:Nat} {d x:V} {dI xI:Value} (hd:f9 (x8 C st s μ F) d dI) (hx:f9 (x8 C st s μ F) x xI) (hs:DU st e d x=some (v,st')):
  YJ C st s μ F (aF2 C.E s e dI xI) v st':=by
 simp only[DU,aG3] at hs
 obtain ⟨n,hn,m,hm,cs,jg,hs⟩:=hs
 split at hs
 case isFalse=>cases hs
 rename_i h7
 have gi:∀ k,T6 x=some k->Nat.min m n<=k:=fun k hk=>by rw[hm] at hk;cases hk;exact Nat.min_le_left _ _
 simp only[aO3,List.isEmpty_iff] at h7
 obtain ⟨us,u1,u2⟩:=(Y5 h.hr hx jg gi).plain h.hr h7.2
 replace h7:=h7.1
 have gv:=rE hx hm
 have g0:=u2.one
 have hint:∀ w:VW,f9 w (.sc (.int .i64 ↑(Nat.min m n))) (.int .i64 ↑(Nat.min m n)):=fun w=> .mksc rfl
 split at hs
 ·rename_i o k n' c
  simp only[Y1,aJ7] at hn
  subst hn
  split at hs
  case h_2=>cases hs
  rename_i t e' g z l ho
  split at hs
  ·cases hs
  rename_i hq
  simp only[cW5,not_or,cB6,LO] at hq
  obtain ⟨h5,hz⟩:=hq
  subst hz
  simp only[aG4] at hs
  obtain ⟨l',hw,hs⟩:=hs
  cases hs
  simp only[f9] at hd
  obtain ⟨_,jd,b',rfl,q⟩:=hd
  obtain ⟨b0,blk,m1,m2,m3⟩:=h.obj o _ ho rfl
  have:=q b0 m1
  subst this
  obtain ⟨rs,r1,r2⟩:=Q4 hw m3.2.2.2 u2
  obtain ⟨g1,g2,g3⟩:=h.upd (fz:= []) (ob':= .row t e' g false l') (blk':={blk with cells:=rs}) ho rfl h5 m1 m2 rfl (by simp) rfl rfl (M1 hw (h.own o _ ho).2 h7) (fun w' k1 k2 k3=>⟨m3.1,m3.2.1,m3.2.2.1,r2.mono k1⟩)
  rw[y9] at g1 g2
  refine ⟨_,_,μ,_,?_,g1,hint _,g2,rfl,aQ5 _,fun c hc=>h.fin_ge (fz:= []) rfl hc⟩
  simp only[aF2,gv,u1,aI2]
  rw[N3 m2 g3 g0 r1]
  rfl
 ·rename_i s' o n'
  simp only[Y1,aJ7] at hn
  subst hn
  split at hs
  case h_2=>cases hs
  rename_i t e' z l ho
  split at hs
  ·cases hs
  rename_i hq
  simp only[cW5,not_or,cB6,BC,Bool.not_eq_false'] at hq
  obtain ⟨⟨⟨⟨h5,hz⟩,g6⟩,gh⟩,ga⟩:=hq
  have ga:=j9.1 ga
  rw[bA2] at h5
  subst hz
  simp only[aG4] at hs
  obtain ⟨l',hw,hs⟩:=hs
  cases hs
  simp only[f9] at hd
  rcases hd with ⟨_,⟨gw,_⟩|⟨_,b',rfl,q⟩⟩
  ·exact absurd gw g6
  have g5:l ≠ []:=fun e0=>by
   rw[e0] at ga
   have:=Nat.mul_pos (cZ7 g6) (cZ7 gh)
   simp at ga;omega
  obtain ⟨b0,blk,m1,m2,m3⟩:=h.obj o _ ho (R3 g5)
  have:=q b0 m1
  subst this
  obtain ⟨rs,r1,r2⟩:=Q4 hw m3.2.2.2 u2
  have gx:l' ≠ []:=fun e0=>by have:=lN hw;rw[e0] at this;exact g5 (bA8 this.symm)
  obtain ⟨g1,g2,g3⟩:=h.upd (fz:= []) (ob':= .gro t e' false l') (blk':={blk with cells:=rs}) ho rfl h5 m1 m2 rfl (by simp) (R3 gx) rfl (M1 hw (h.own o _ ho).2 h7) (fun w' k1 k2 k3=>⟨m3.1,m3.2.1,m3.2.2.1,r2.mono k1⟩)
  rw[y9] at g1 g2
  refine ⟨_,_,μ,_,?_,g1,hint _,g2,rfl,aQ5 _,fun c hc=>h.fin_ge (fz:= []) rfl hc⟩
  simp only[aF2,gv,u1,aI2]
  rw[N3 m2 g3 g0 r1]
  rfl
 ·cases hs
  have hk:=hd.ok
  have:=hd.scv
  subst this
  simp only[D2,aO3,j9] at hk
  obtain ⟨rfl,rfl⟩:=hk
  simp only[Y1,aJ7] at hn
  subst hn
  refine ⟨_,s,μ,F,?_,h,hint _,VW.le.refl _,rfl,aQ5 _,fun b hb=> .inl hb⟩
  simp only[aF2,gv,u1,aI2]
 ·cases hs
theorem SR.give (h:SR C st s μ F) {o b:Nat} {ob:Obj} (ho:j7 st.own o=some ob) (hz:ob.fz=false) (h5:st.ro<=o) (hμ:μ o=some b) (x:Value) (hx:D2 x=true):
  YJ C st s μ F (some (x,{s with heap:=J1 s.heap b})) (.sc x) ⟨J6 o st.own,st.next,st.ro⟩/\s.prot<=b:=by
 obtain ⟨d1,d2,d3⟩:=h.del ho hz h5 hμ
 exact ⟨⟨x,_,_,F,rfl,d1,.mksc hx,d2,rfl,aQ5 _,fun b hb=> .inl hb⟩,d3⟩
theorem bW6 (h:SR C st s μ F) {t:TypeId} {p n:V} {pI nI:Value} (hp:f9 (x8 C st s μ F) p pI) (hn:f9 (x8 C st s μ F) n nI) (hs:EI st t p n=some (v,st')):
  YJ C st s μ F (DS s t pI nI) v st':=by
 unfold EI at hs
 split at hs
 ·rename_i k
  split at hs
  case isFalse=>cases hs
  rename_i hk
  cases hs
  have:=hp.scv
  subst this
  have:=hn.scv
  subst this
  exact ⟨_,s,μ,F,by simp[DS,hk],h,.mksc rfl,VW.le.refl _,rfl,aQ5 _,fun b hb=> .inl hb⟩
 ·rename_i o k m
  split at hs
  case isFalse=>cases hs
  rename_i hc
  obtain ⟨g7,jh,h5⟩:=hc
  rw[bA2] at h5
  have:=hn.scv
  subst this
  simp only[f9] at hp
  obtain ⟨_,b',rfl,q⟩:=hp
  have ji:¬ m=0:=by omega
  have fin:∀ {ob:Obj} {l:List D} {b:Nat} {blk:A0} {bs:List UInt8} {cs:List D},j7 st.own o=some ob->ob.fz=false->μ o=some b->i7 s.heap b=some blk->blk.ty=t->m6 (x8 C st s μ F) l blk.cells->F5 (l.drop k) m.toNat=some cs->E4 cs=some bs->
    v= .sc (.string ⟨bs.toArray⟩)->st'=⟨J6 o st.own,st.next,st.ro⟩->YJ C st s μ F (DS s t (.pointer (some ⟨b',k,some 0⟩)) (.int .i64 m)) v st':=by
   intro ob l b blk bs cs e1 e2 e3 e4 e5 e6 e7 e8 e9 e10
   have:=q b e3
   subst this e9 e10
   obtain ⟨g1,g2⟩:=h.give e1 e2 h5 e3 (.string ⟨bs.toArray⟩) rfl
   obtain ⟨rfl,h6⟩:=H8 _ _ e7
   rw[dC7] at h6
   have g9:=e6.length
   have hb:=tC e8 (e6.part k m.toNat)
   have:DS s t (.pointer (some ⟨b',k,some 0⟩)) (.int .i64 m)=some (.string ⟨bs.toArray⟩,{s with heap:=J1 s.heap b'}):=by
    simp only[DS]
    rw[aQ4 ji,aO9 ⟨g7,jh⟩,aO9 (by rw[bA2];exact g2),e4]
    simp only[aI2]
    rw[aO9 (by rw[e5];exact j9.2 rfl),Y2 _ _ (by rw[dC7];omega)]
    simp only[aI2,hb,aX8]
   rw[this];exact g1
  split at hs
  ·rename_i t' e' z l ho
   split at hs
   case isFalse=>cases hs
   rename_i hc
   simp only[aO3,cL0] at hc
   have ht:=j9.1 hc.1
   have hz:=hc.2
   subst ht hz
   simp only[aG3,aG4] at hs
   obtain ⟨cs,h1,bs,h2,hs⟩:=hs
   cases hs
   have g5:l ≠ []:=fun e0=>by
    obtain ⟨_,h6⟩:=H8 _ _ h1
    rw[e0] at h6;simp at h6;omega
   obtain ⟨b0,blk,m1,m2,m3⟩:=h.obj o _ ho (R3 g5)
   exact fin ho rfl m1 m2 m3.2.2.1 m3.2.2.2 h1 h2 rfl rfl
  ·rename_i t' e' g z l ho
   split at hs
   case isFalse=>cases hs
   rename_i hc
   simp only[aO3,cL0] at hc
   have ht:=j9.1 hc.1
   have hz:=hc.2
   subst ht hz
   simp only[aG3,aG4] at hs
   obtain ⟨cs,h1,bs,h2,hs⟩:=hs
   cases hs
   obtain ⟨b0,blk,m1,m2,m3⟩:=h.obj o _ ho rfl
   exact fin ho rfl m1 m2 m3.2.2.1 m3.2.2.2 h1 h2 rfl rfl
  ·cases hs
 ·cases hs
theorem GX {w:VW}:∀ {l:List D} {zs:List Int} {rs:List Value},TB l=some zs->m6 w l rs->wE rs=some zs
 | [],zs,rs,h,hr=>by
  simp only[m6] at hr
  subst hr
  simpa [TB,wE] using h
 |d::l,zs,rs,h,hr=>by
  unfold TB at h
  split at h
  ·rename_i heq;cases heq
  ·rename_i heq
   simp only[dI9] at heq
   obtain ⟨rfl,rfl⟩:=heq
   simp only[aG4] at h
   obtain ⟨zs',h1,rfl⟩:=h
   simp only[m6,A1] at hr
   obtain ⟨c,rs',rfl,⟨rfl,_⟩,h2⟩:=hr
   simp only[wE,GX h1 h2,aX8]
  ·cases h
theorem HT {w:VW}:∀ (zs:List Int),m6 w (zs.map fun x=>D.sc (.int .i64 x)) (zs.map (Value.int .i64))
 | []=>by simp only[dL9,m6]
 |z::r=>by
  simp only[cJ1,m6,A1]
  exact ⟨_,_,rfl,⟨rfl,rfl⟩,HT r⟩
theorem AU {α:Type}:∀ (l:List α),F5 l l.length=some l
 | []=>rfl
 |x::l=>by simp only[bK2,F5,AU l,aX8]
theorem cG9 (h:SR C st s μ F) {k0:Nat} {x:V} {xI:Value} (hx:f9 (x8 C st s μ F) x xI) (hs:cX3 st k0 x=some (v,st')):YJ C st s μ F (NG k0 s xI) v st':=by
 unfold cX3 at hs
 split at hs
 ·rename_i s' o n'
  have jj:=hx
  simp only[f9] at hx
  split at hs
  ·rename_i h0
   have h0:=j9.1 h0
   subst h0
   cases hs
   have:∃ a c,xI= .slice a 0 c:=by
    rcases hx.2 with ⟨_,rfl|⟨_,a,c,rfl,_⟩⟩|⟨h,_⟩
    ·exact ⟨_,_,rfl⟩
    ·exact ⟨_,_,rfl⟩
    ·exact absurd rfl h
   obtain ⟨a,c,rfl⟩:=this
   refine ⟨AR k0 a [] c,s,μ,F,rfl,h,?_,VW.le.refl _,rfl,aQ5 _,fun b hb=> .inl hb⟩
   cases k0 with
   |zero=>show f9 _ (.tup []) (.tuple #[]);simp only[f9,i6];exact ⟨[],rfl,rfl⟩
   |succ k0=>exact jj
  rename_i g6
  have g6:n' ≠ 0:=fun e=>g6 (j9.2 e)
  split at hs
  case h_2=>cases hs
  rename_i t e z l ho
  split at hs
  case isFalse=>cases hs
  rename_i hc
  simp only[aO3,cL0] at hc
  obtain ⟨⟨⟨h5,hz⟩,ga⟩,jk⟩:=hc
  have ga:=j9.1 ga
  rw[bA2] at h5
  subst hz
  simp only[aG4] at hs
  obtain ⟨zs,jl,hs⟩:=hs
  cases hs
  rcases hx with ⟨_,⟨gw,_⟩|⟨_,b',rfl,q⟩⟩
  ·exact absurd gw g6
  have g5:l ≠ []:=fun e0=>by rw[e0] at ga;simp at ga;omega
  obtain ⟨b0,blk,m1,m2,m3⟩:=h.obj o _ ho (R3 g5)
  have:=q b0 m1
  subst this
  have hi:=GX jl m3.2.2.2
  have g9:=m3.2.2.2.length
  have jp:zs.length=l.length:=by
   have:=congrArg List.length (pD hi)
   simp only[cZ0] at this
   omega
  have jq:=TH k0 zs
  have gx:((lF k0 zs).map fun x=>D.sc (.int .i64 x)) ≠ []:=fun e0=>by
   have:=congrArg List.length e0
   simp only[cZ0,dA2] at this
   omega
  obtain ⟨g1,g2,g3⟩:=h.upd (fz:= []) (ob':= .gro t e false ((lF k0 zs).map fun x=>D.sc (.int .i64 x))) (blk':={blk with cells:=(lF k0 zs).map (Value.int .i64)}) ho rfl h5 m1 m2 rfl (by simp) (R3 gx) rfl (by
   simp only[Obj.ok,Q1,bB3]
   intro d hd
   obtain ⟨x,_,rfl⟩:=dK4.1 hd
   rfl) (fun w' k1 k2 k3=>⟨m3.1,m3.2.1,m3.2.2.1,HT _⟩)
  rw[y9] at g1 g2
  refine ⟨AR k0 (some ⟨b',0,some 0⟩) zs (A5+n'),_,μ,_,?_,g1,?_,g2,rfl,aQ5 _,fun c hc=>h.fin_ge (fz:= []) rfl hc⟩
  rotate_left
  ·cases k0 with
   |zero=>show f9 _ (.tup []) (.tuple #[]);simp only[f9,i6];exact ⟨[],rfl,rfl⟩
   |succ k0=>
    have g9:=aF3 zs
    simp only[cN7,AR,f9]
    refine ⟨h.own o _ ho|>.1,?_,b',rfl,fun b hb=>q b hb⟩
    unfold I4
    rw[H0,aQ4 (by omega)]
    omega
  simp only[NG,m2,aI2]
  rw[aQ4 (fun e=>g6 (j9.1 e)),dD7]
  have e1:F5 blk.cells n'=some blk.cells:=by
   have:=AU blk.cells
   rwa [show blk.cells.length=n' by omega] at this
  rw[e1]
  simp only[aI2,hi]
  rw[aO9 (by rw[aO3];exact ⟨jk,by rw[bA2];exact aQ5 _⟩)]
  have g0:((lF k0 zs).map (Value.int .i64)).all E0=true:=by
   rw[bB3]
   intro d hd
   obtain ⟨x,_,rfl⟩:=dK4.1 hd
   rfl
  have jm:S6 blk.cells 0 ((lF k0 zs).map (Value.int .i64))=some ((lF k0 zs).map (Value.int .i64)):=by
   have:∀ (cs ls:List Value),ls.length=cs.length->S6 ls 0 cs=some cs:=fun cs=>by
    induction cs with
    |nil=>intro ls hl;have:=bA8 hl;subst this;rfl
    |cons c cs ih=>
     intro ls hl
     cases ls with
     |nil=>simp at hl
     |cons x ls=>simp only[S6,ih ls (by simpa using hl),aX8]
   exact this _ _ (by simp only[cZ0];omega)
  rw[N3 m2 g3 g0 jm]
  rfl
 ·split at hs
  case isFalse=>cases hs
  rename_i h0
  have h0:=j9.1 h0
  subst h0
  cases hs
  have:=hx.scv
  subst this
  refine ⟨AR k0 none [] _,s,μ,F,rfl,h,?_,VW.le.refl _,rfl,aQ5 _,fun b hb=> .inl hb⟩
  cases k0 with
  |zero=>show f9 _ (.tup []) (.tuple #[]);simp only[f9,i6];exact ⟨[],rfl,rfl⟩
  |succ k0=>exact hx
 ·cases hs
theorem bV1 (h:SR C st s μ F) {x:V} {xI:Value} (hx:f9 (x8 C st s μ F) x xI) (hs:oL st x=some (v,st')):YJ C st s μ F (TO s xI) v st':=by
 unfold oL at hs
 split at hs
 case h_2=>cases hs
 rename_i o k
 split at hs
 case isFalse=>cases hs
 rename_i hk
 have hk:=j9.1 hk
 subst hk
 split at hs
 case h_2=>cases hs
 rename_i t e g z l ho
 split at hs
 case isFalse=>cases hs
 rename_i hc
 simp only[aO3,cL0] at hc
 obtain ⟨⟨⟨h5,hz⟩,he⟩,hg⟩:=hc
 have he:=j9.1 he
 rw[bA2] at h5
 subst hz he hg
 split at hs
 case isFalse=>cases hs
 rename_i j1
 simp only[f9] at hx
 obtain ⟨_,b',rfl,q⟩:=hx
 obtain ⟨b0,blk,m1,m2,m3⟩:=h.obj o _ ho rfl
 have:=q b0 m1
 subst this
 obtain ⟨f1,f2,f3,_⟩:=m3
 split at hs
 ·rename_i gy
  cases hs
  obtain ⟨g1,g2,g3⟩:=h.upd (fz:= []) (ob':= .row (pF (O9 t).1 ((O9 t).2+(Utf8.decode (O9 t).1 (O9 t).2).2)) 0 false false []) (blk':=oC (O9 t).1 ((O9 t).2+(Utf8.decode (O9 t).1 (O9 t).2).2)) ho rfl h5 m1 m2 rfl (by simp) rfl rfl rfl (fun w' k1 k2 k3=>⟨rfl,rfl,rfl,by simp only[m6,oC]⟩)
  rw[y9] at g1 g2
  refine ⟨.tuple #[.bool true,.int .i64 (O9 t).2,.int .i32 (Utf8.decode (O9 t).1 (O9 t).2).1],_,μ,_,?_,g1,?_,g2,rfl,aQ5 _,fun c hc=>h.fin_ge (fz:= []) rfl hc⟩
  ·simp only[TO]
   rw[aO9 (by rw[bA2];exact g3),m2]
   simp only[aI2,f1,f2,f3]
   rw[aO9 (by rfl),aO9 j1,aO9 gy]
  ·simp only[f9,i6]
   exact ⟨_,rfl,_,_,rfl,⟨rfl,rfl⟩,_,_,rfl,⟨rfl,rfl⟩,_,_,rfl,⟨rfl,rfl⟩,rfl⟩
 ·rename_i gy
  cases hs
  obtain ⟨_,_,g3⟩:=h.upd (fz:= []) (ob':= .row t 0 false false []) (blk':={blk with cells:= []}) ho rfl h5 m1 m2 rfl (by simp) rfl rfl rfl (fun w' k1 k2 k3=>⟨f1,f2,f3,by simp only[m6]⟩)
  refine ⟨.tuple #[.bool false],s,μ,F,?_,h,?_,VW.le.refl _,rfl,aQ5 _,fun b hb=> .inl hb⟩
  ·simp only[TO]
   rw[aO9 (by rw[bA2];exact g3),m2]
   simp only[aI2,f1,f2,f3]
   rw[aO9 (by rfl),aO9 j1,aQ4 gy]
  ·simp only[f9,i6]
   exact ⟨_,rfl,_,_,rfl,⟨rfl,rfl⟩,rfl⟩
theorem bA1 (h:SR C st s μ F) (hf:FR (x8 C st s μ F) fr frI) {op:M8} (hs:R8 fr st op=some (v,st')):YJ C st s μ F (step C.E frI s op) v st':=by
 cases op with
 |store n a u=>
  simp only[R8,aG3,aG4] at hs
  obtain ⟨av,h1,uv,h2,st1,h3,hs⟩:=hs
  cases hs
  obtain ⟨aI,a1,a2⟩:=o8 hf h1
  obtain ⟨uI,b1,b2⟩:=o8 hf h2
  have:=aZ7 h a2 b2 h3
  rw[DC (r:=_) rfl rfl]
  simp only[s7,a1,b1,aI2]
  exact this
 |app t e b x y=>
  simp only[R8,aG3] at hs
  obtain ⟨av,h1,uv,h2,hs⟩:=hs
  obtain ⟨aI,a1,a2⟩:=o8 hf h1
  obtain ⟨uI,b1,b2⟩:=o8 hf h2
  have k:=bU8 h a2 b2 hs
  have:step C.E frI s (.app t e b x y)=LL C.E s t e b aI uI:=by
   simp only[step,d9,s7,a1,b1,aI2,LL]
   cases bB C.E s t e b aI uI<;>rfl
  rw[this]
  exact k
 |copy e d x=>
  simp only[R8,aG3] at hs
  obtain ⟨av,h1,uv,h2,hs⟩:=hs
  obtain ⟨aI,a1,a2⟩:=o8 hf h1
  obtain ⟨uI,b1,b2⟩:=o8 hf h2
  have:=bV0 h a2 b2 hs
  rw[DC (r:=_) rfl rfl]
  simp only[s7,a1,b1,aI2]
  exact this
 |ustr t p n=>
  simp only[R8,aG3] at hs
  obtain ⟨av,h1,uv,h2,hs⟩:=hs
  obtain ⟨aI,a1,a2⟩:=o8 hf h1
  obtain ⟨uI,b1,b2⟩:=o8 hf h2
  have:=bW6 h a2 b2 hs
  rw[DC (r:=_) rfl rfl]
  simp only[s7,a1,b1,aI2]
  exact this
 |lib k x=>
  simp only[R8,aG3] at hs
  obtain ⟨av,h1,hs⟩:=hs
  obtain ⟨aI,a1,a2⟩:=o8 hf h1
  have:=cG9 h a2 hs
  rw[DC (r:=_) rfl rfl]
  simp only[s7,a1,aI2]
  exact this
 |nextS x=>
  simp only[R8,aG3] at hs
  obtain ⟨av,h1,hs⟩:=hs
  obtain ⟨aI,a1,a2⟩:=o8 hf h1
  have:=bV1 h a2 hs
  rw[DC (r:=_) rfl rfl]
  simp only[s7,a1,aI2]
  exact this
 |_=>simp[R8] at hs
theorem bW5 (h:SR C st s μ F) (hf:FR (x8 C st s μ F) fr frI) {op:M8} (hs:XS C.E.old fr st op=some (v,st')):YJ C st s μ F (step C.E frI s op) v st':=by
 unfold XS at hs
 split at hs
 ·rename_i v' ob fz hv
  split at hs
  case isFalse=>cases hs
  rename_i hj
  cases hs
  obtain ⟨vI,bs,p1,p2⟩:=nP (n:=s.next) (p:=s.prot) h.hr hf hv
  obtain ⟨q1,q2,q3,q4⟩:=h.push p2 hj
  refine ⟨vI,s.push bs,_,_,?_,q1,q2,q3,rfl,by simp[St.push],q4⟩
  have:step C.E frI s op=some (vI,s.push bs):=by simp only[step];rw[show d9 C.E frI s op=some (vI,bs) from p1]
  exact this
 ·exact bA1 h hf hs
end
def Rl (C:C8) (st:n9) (fr:D0) (s:St) (frI:Fr):Prop:=
 ∃ μ F,SR C st s μ F/\FR (x8 C st s μ F) fr frI/\VW.le C.w0 (x8 C st s μ F)/\s.prot=C.p0/\∀ b,F b->C.w0.F b\/C.p0<=b
abbrev B9:=Ex->D0->n9->Prop
def DV (C:C8) (run:Fr->St->aQ6) (fr:D0) (st:n9) (P:B9):Prop:=
 ∀ frI s,Rl C st fr s frI->∃ ex frI' s',run frI s=some (ex,frI',s')/\∃ fr' st',Rl C st' fr' s' frI'/\P ex fr' st'
def callI (E:G3) (f:FuncId) (xs:List Value) (s:St):Option (Value × St):=
 match E.pcall f xs s with
 |some (v,bs)=>some (v,s.push bs)
 |none=>E.wcall f xs s
def T2 (C:C8) (f:FuncId) (xs:List V) (st:n9) (Q:V->n9->Prop):Prop:=
 ∃ v st',Q v st'/\∀ s μ F xsI,SR C st s μ F->i6 (x8 C st s μ F) xs xsI->s.prot=C.p0->YJ C st s μ F (callI C.E f xsI s) v st'
def Z2:V->List V->Option (FuncId × List V)
 | .sc (.func (.func f) _ _),xs=>some (f,xs)
 | .fn f a b,xs=>some (f,a++xs++b)
 |_,_=>none
def iM (ms:List (TypeId × FuncId)):V->List V->Option (FuncId × List V)
 | .ifc t u,xs=>(T7 ms t).map fun f=>(f,u::xs)
 | .sc (.iface t u),xs=>(T7 ms t).map fun f=>(f,.sc u::xs)
 |_,_=>none
def aD4 (C:C8) (o:Nat) (xs:List V) (st:n9) (Q:V->n9->Prop):Prop:=
 ∀ s μ F xsI d,SR C st s μ F->i6 (x8 C st s μ F) xs xsI->VW.le C.w0 (x8 C st s μ F)->s.prot=C.p0->(∀ b,F b->C.w0.F b\/C.p0<=b)->f9 (x8 C st s μ F) (.tok o) (.chan (some d))->∃ v st',Q v st'/\YJ C st s μ F (C.E.yld d xsI s) v st'
def LV (C:C8) (g:V) (vs:List V) (st:n9) (Q:V->n9->Prop):Prop:=
 match g with
 | .tok o=>aD4 C o vs st Q
 |_=>False
def pU (C:C8) (fr:D0) (st:n9) (op:M8) (Q:V->n9->Prop):Prop:=
 match op with
 | .callF f xs=>match V3 fr xs with|some vs=>T2 C f vs st Q|none=>False
 | .callV x xs=>match s5 fr x,V3 fr xs with
   |some g,some vs=>(match Z2 g vs with|some (f,ws)=>T2 C f ws st Q|none=>LV C g vs st Q)
   |_,_=>False
 | .callI ms x xs=>match s5 fr x,V3 fr xs with
   |some g,some vs=>(match iM ms g vs with|some (f,ws)=>T2 C f ws st Q|none=>False)
   |_,_=>False
 |op=>match XS C.E.old fr st op with|some (v,st')=>Q v st'|none=>False
def wpO (C:C8):List l5->D0->n9->(D0->n9->Prop)->Prop
 | [],fr,st,Q=>Q fr st
 |o::l,fr,st,Q=>match o.guard with
   |none=>pU C fr st o.op fun v st'=>wpO C l (u7 fr o.dst v) st' Q
   |some (t,want)=>match j7 fr t with
     |some (.sc (.bool b))=>if b==want then pU C fr st o.op fun v st'=>wpO C l (u7 fr o.dst v) st' Q else wpO C l (u7 fr o.dst (.tup [])) st Q
     |some (.tup _)=>wpO C l (u7 fr o.dst (.tup [])) st Q
     |_=>False
def aD9:Nat->Nat->E9->E9
 |_,0,H=>H
 |o,c+1,H=>J6 o (aD9 (o+1) c H)
def Q8:E9->List (Nat × Nat)->List Bool->E9
 |H,[],_=>H
 |H,_::r,true::ms=>Q8 H r ms
 |H,(o,c)::r,false::ms=>aD9 o c (Q8 H r ms)
 |H,_::r,[]=>Q8 H r []
def C1 (E:G3) (s:St) (w0:VW):C8:=⟨E,s.next,s.heap,(· <s.next),w0,s.next⟩
def E7 (E:G3) (f:FuncId) (st:n9) (xs:List V) (v:V):Prop:=
 ∀ (s:St) (μ:Nat->Option Nat) (F:Nat->Prop) (xsI:List Value) (w0:VW),SR (C1 E s w0) ⟨st.own,st.next,st.next⟩ ⟨s.heap,s.next,s.next⟩ μ F->i6 (x8 (C1 E s w0) st s μ F) xs xsI->
  ∃ vI,E.pcall f xsI s=some (vI,[])/\∀ w,f9 w v vI
def LG (E:G3) (f:FuncId) (st:n9) (xs:List V) (v:V) (ob:Obj):Prop:=
 ob.none=false/\ob.fz=false/\ob.ok=true/\∀ (s:St) (μ:Nat->Option Nat) (F:Nat->Prop) (xsI:List Value) (w0:VW),SR (C1 E s w0) ⟨st.own,st.next,st.next⟩ ⟨s.heap,s.next,s.next⟩ μ F->i6 (x8 (C1 E s w0) st s μ F) xs xsI->
  ∃ vI blk,E.pcall f xsI s=some (vI,[blk])/\∀ w:VW,st.next<w.nx->w.μ st.next=some s.next->f9 w v vI/\kB w ob blk
def FI:List Obj->List A0->Prop
 | [],[]=>True
 |o::r,b::q=>(o.none=false/\o.fz=false/\o.ok=true/\∀ w,kB w o b)/\FI r q
 |_,_=>False
def cO4 (E:G3) (f:FuncId) (st:n9) (xs:List V) (v:V) (obs:List Obj):Prop:=
 ∀ (s:St) (μ:Nat->Option Nat) (F:Nat->Prop) (xsI:List Value) (w0:VW),SR (C1 E s w0) ⟨st.own,st.next,st.next⟩ ⟨s.heap,s.next,s.next⟩ μ F->i6 (x8 (C1 E s w0) st s μ F) xs xsI->
  ∃ vI bs,E.pcall f xsI s=some (vI,bs)/\FI obs bs/\∀ w:VW,st.next+obs.length<=w.nx->(∀ k,k<obs.length->w.μ (st.next+k)=some (s.next+k))->f9 w v vI
def n9.pushL:n9->List Obj->n9
 |st,[]=>st
 |st,o::r=>n9.pushL ⟨(st.next,o)::st.own,st.next+1,st.ro⟩ r
def aD3 (C:C8) (f:FuncId) (xs:List V) (H:E9) (nx:Nat) (Q:V->List Obj->Prop):Prop:=(∃ v,E7 C.E f ⟨H,nx,nx⟩ xs v/\Q v [])\/(∃ v ob,LG C.E f ⟨H,nx,nx⟩ xs v ob/\Q v [ob])\/∃ v obs,cO4 C.E f ⟨H,nx,nx⟩ xs v obs/\Q v obs
def OY (C:C8) (f:D0) (H:E9) (st:n9) (op:M8) (Q:V->List Obj->Prop):Prop:=
 match op with
 | .callF g xs=>match V3 f xs with|some vs=>aD3 C g vs H st.next Q|none=>False
 | .callV x xs=>match s5 f x,V3 f xs with
   |some g,some vs=>(match Z2 g vs with|some (g,ws)=>aD3 C g ws H st.next Q|none=>False)
   |_,_=>False
 |op=>match j6 C.E.old f H st.next op with|some (v,ob,fz)=>if fz.isEmpty then Q v ob.toList else False|none=>False
def bA9 (C:C8) (g:FuncId) (vs:List V) (st:n9) (Q:V->Prop):Prop:=
 ∃ v,Q v/\∀ s μ F xsI,SR C st s μ F->i6 (x8 C st s μ F) vs xsI->∃ vI bs μ' F',C.E.pcall g xsI ⟨s.heap,s.next,s.next⟩=some (vI,bs)/\SR C st (s.push bs) μ' F'/\f9 (x8 C st (s.push bs) μ' F') v vI/\VW.le (x8 C st s μ F) (x8 C st (s.push bs) μ' F')/\∀ b,F' b->F b\/s.prot<=b
def wpL (C:C8) (f:D0) (st:n9) (op:M8) (Q:V->Prop):Prop:=
 match op with
 | .callF g xs=>match V3 f xs with|some vs=>bA9 C g vs st Q|none=>False
 |_=>False
def OM:M8->Bool
 | .mov _=>true
 | .ext _ _=>true
 |_=>false
def wpT (C:C8):List l5->D0->n9->(D0->n9->Prop)->Prop
 | [],fr,st,Q=>Q fr st
 |o::l,fr,st,Q=>o.guard=none/\OM o.op=true/\match j6 C.E.old (A8 (r9 o) fr) st.own st.next o.op with|some (v,none,[])=>wpT C l (u7 fr o.dst v) st Q|_=>False
def wpP (C:C8):List l5->List (List Bool)->List (Nat × Nat)->D0->n9->(D0->n9->Prop)->Prop
 | [],_,_,fr,st,Q=>Q fr st
 |o::l,h0,vds,fr,st,Q=>match o.guard with
   |none=>(OY C (A8 (r9 o) fr) (Q8 st.own vds (h0.headD [])) st o.op fun v obs=>wpP C l h0.tail ((st.next,obs.length)::vds) (u7 fr o.dst v) (st.pushL obs) Q)\/(h0.headD []= []/\wpL C (A8 (r9 o) fr) st o.op fun v=>wpT C l (u7 fr o.dst v) st Q)
   |some (t,want)=>match j7 fr t with
     |some (.sc (.bool b))=>if b==want then ((OY C (A8 (r9 o) fr) (Q8 st.own vds (h0.headD [])) st o.op fun v obs=>wpP C l h0.tail ((st.next,obs.length)::vds) (u7 fr o.dst v) (st.pushL obs) Q)\/(h0.headD []= []/\wpL C (A8 (r9 o) fr) st o.op fun v=>wpT C l (u7 fr o.dst v) st Q))
       else wpP C l h0.tail ((st.next,0)::vds) (u7 fr o.dst (.tup [])) st Q
     |some (.tup _)=>wpP C l h0.tail ((st.next,0)::vds) (u7 fr o.dst (.tup [])) st Q
     |_=>False
def OX (C:C8):AC->D0->n9->B9->Prop
 | .skip,fr,st,P=>P .normal fr st
 | .ops l ks,fr,st,P=>wpO C l fr st fun fr st=>P .normal (A8 ks fr) st
 | .draw pre tail h0 ks,fr,st,P=>wpP C pre h0 [] fr st fun fr st=>wpO C tail fr st fun fr st=>P .normal (A8 ks fr) st
 | .drawW pre tail ks,fr,st,P=>DV C (C7 C.E (.drawW pre tail ks)) fr st P
 | .seq a b,fr,st,P=>OX C a fr st fun ex fr st=>match ex with
   | .normal=>OX C b fr st P
   |ex=>P ex fr st
 | .cond c t e,fr,st,P=>match s5 fr c with
   |some (.sc (.bool b))=>if b then OX C t fr st P else OX C e fr st P
   |_=>False
 | .block id b,fr,st,P=>OX C b fr st fun ex fr st=>match ex with
   | .exit i=>if i=id then P .normal fr st else P (.exit i) fr st
   |ex=>P ex fr st
 | .loop ks b,fr,st,P=>DV C (C7 C.E (.loop ks b)) fr st P
 | .rangeF g ps ks a b,fr,st,P=>DV C (C7 C.E (.rangeF g ps ks a b)) fr st P
 | .exit id,fr,st,P=>P (.exit id) fr st
 | .ret,fr,st,P=>P .ret fr st
 | .bad,_,_,_=>False
section
variable {C:C8} {fr:D0} {st:n9} {P:B9}
theorem DV.mono {run:Fr->St->aQ6} {Q:B9} (h:DV C run fr st P) (hq:∀ ex fr st,P ex fr st->Q ex fr st):DV C run fr st Q:=fun frI s hr=>by
 obtain ⟨ex,frI',s',e,fr',st',h1,h2⟩:=h frI s hr
 exact ⟨ex,frI',s',e,fr',st',h1,hq _ _ _ h2⟩
theorem Rl.stp {s:St} {frI:Fr} {μ:Nat->Option Nat} {F:Nat->Prop} (h1:SR C st s μ F) (h2:FR (x8 C st s μ F) fr frI) (h3:VW.le C.w0 (x8 C st s μ F)) (h4:s.prot=C.p0) (h5:∀ b,F b->C.w0.F b\/C.p0<=b) {r:Option (Value × St)} {v:V} {st':n9} (hs:YJ C st s μ F r v st'):
  ∃ vI s',r=some (vI,s')/\∀ d,Rl C st' (u7 fr d v) s' (J0 frI d vI):=by
 obtain ⟨vI,s',μ',F',e,q1,q2,q3,q4,q5,q6⟩:=hs
 refine ⟨vI,s',e,fun d=>⟨μ',F',q1,(h2.mono q3).put q2 d,h3.trans q3,q4.trans h4,fun b hb=>?_⟩⟩
 rcases q6 b hb with hb|hb
 ·exact h5 b hb
 ·exact .inr (by rw[<- h4];exact hb)
theorem sZ {w:VW} {g:V} {vs ws:List V} {f:FuncId} {gI:Value} {vsI:List Value} (h:Z2 g vs=some (f,ws)) (hg:f9 w g gI) (hv:i6 w vs vsI):∃ wsI,aS gI vsI=some (f,wsI)/\i6 w ws wsI:=by
 cases g with
 |sc x=>
  have hx:=hg.ok
  have:=hg.scv
  subst this
  cases gI with
  |func fn a b=>
   cases fn with
   |func f'=>
    obtain ⟨a⟩:=a
    obtain ⟨b⟩:=b
    simp only[Z2,aJ7,aS6] at h
    obtain ⟨rfl,rfl⟩:=h
    simp only[D2,aO3,List.isEmpty_iff] at hx
    obtain ⟨rfl,rfl⟩:=hx
    exact ⟨vsI,by simp[aS],hv⟩
   |_=>simp[Z2] at h
  |_=>simp[Z2] at h
 |fn f' a b=>
  simp only[Z2,aJ7,aS6] at h
  obtain ⟨rfl,rfl⟩:=h
  simp only[f9] at hg
  obtain ⟨as,bs,rfl,ha,hb⟩:=hg
  refine ⟨as++vsI++bs,rfl,?_⟩
  have app:∀ {l m:List V} {ls ms:List Value},i6 w l ls->i6 w m ms->i6 w (l++m) (ls++ms):=by
   intro l
   induction l with
   |nil=>intro m ls ms h1 h2;simp only[i6] at h1;subst h1;exact h2
   |cons x l ih=>
    intro m ls ms h1 h2
    simp only[i6] at h1
    obtain ⟨v,vs',rfl,a1,a2⟩:=h1
    simp only[dI5,i6]
    exact ⟨v,vs'++ms,rfl,a1,ih a2 h2⟩
  exact app (app ha hv) hb
 |_=>simp[Z2] at h
theorem ZB {w:VW} {ms:List (TypeId × FuncId)} {g:V} {vs ws:List V} {f:FuncId} {gI:Value} {vsI:List Value} (h:iM ms g vs=some (f,ws)) (hg:f9 w g gI) (hv:i6 w vs vsI):∃ wsI,iL ms gI vsI=some (f,wsI)/\i6 w ws wsI:=by
 unfold iM at h
 split at h
 ·simp only[aG4,aS6] at h
  obtain ⟨k,h1,rfl,rfl⟩:=h
  simp only[f9] at hg
  obtain ⟨v',rfl,hg⟩:=hg
  exact ⟨v'::vsI,by simp[iL,h1],by simp only[i6];exact ⟨_,_,rfl,hg,hv⟩⟩
 ·rename_i _ _ t u
  simp only[aG4,aS6] at h
  obtain ⟨k,h1,rfl,rfl⟩:=h
  have hx:=hg.ok
  have:=hg.scv
  subst this
  exact ⟨u::vsI,by simp[iL,h1],by simp only[i6];exact ⟨_,_,rfl,.mksc (by simpa only[D2] using hx),hv⟩⟩
 ·cases h
theorem LA {op:M8} {Q:V->n9->Prop} (h:pU C fr st op Q) {s:St} {frI:Fr} (hr:Rl C st fr s frI):∃ vI s' v st',step C.E frI s op=some (vI,s')/\Q v st'/\∀ d,Rl C st' (u7 fr d v) s' (J0 frI d vI):=by
 obtain ⟨μ,F,h1,h2,h3,h4,h5⟩:=hr
 have call:∀ {f:FuncId} {ws:List V} {wsI:List Value},T2 C f ws st Q->i6 (x8 C st s μ F) ws wsI->step C.E frI s op=callI C.E f wsI s->∃ vI s' v st',step C.E frI s op=some (vI,s')/\Q v st'/\∀ d,Rl C st' (u7 fr d v) s' (J0 frI d vI):=by
  intro f ws wsI hc hw he
  obtain ⟨v,st',hq,hs⟩:=hc
  obtain ⟨vI,s',e,hl⟩:=Rl.stp h1 h2 h3 h4 h5 (hs s μ F wsI h1 hw h4)
  exact ⟨vI,s',v,st',by rw[he];exact e,hq,hl⟩
 unfold pU at h
 split at h
 ·rename_i f xs
  split at h
  case h_2=>exact h.elim
  rename_i vs h8
  obtain ⟨vsI,a1,a2⟩:=aZ h2 h8
  exact call h a2 (by simp only[step,d9,s7,a1,aI2,callI];cases C.E.pcall f vsI s<;>rfl)
 ·rename_i x xs
  split at h
  case h_2=>exact h.elim
  rename_i g vs hg h8
  obtain ⟨gI,b1,b2⟩:=o8 h2 hg
  obtain ⟨vsI,a1,a2⟩:=aZ h2 h8
  split at h
  case h_2=>
   unfold LV at h
   split at h
   case h_2=>exact h.elim
   rename_i o
   have b2':=b2
   simp only[f9] at b2'
   obtain ⟨_,d,rfl,_⟩:=b2'
   obtain ⟨v,st',hq,hs⟩:=h s μ F vsI d h1 a2 h3 h4 h5 b2
   obtain ⟨vI,s',e,hl⟩:=Rl.stp h1 h2 h3 h4 h5 hs
   exact ⟨vI,s',v,st',by simp only[step,d9,s7,a1,b1,aI2,aS,Option.bind_none,QJ];exact e,hq,hl⟩
  rename_i f ws hj
  obtain ⟨wsI,c1,c2⟩:=sZ hj b2 a2
  exact call h c2 (by simp only[step,d9,s7,a1,b1,c1,YY c1,aI2,callI];cases C.E.pcall f wsI s<;>rfl)
 ·rename_i ms x xs
  split at h
  case h_2=>exact h.elim
  rename_i g vs hg h8
  split at h
  case h_2=>exact h.elim
  rename_i f ws hj
  obtain ⟨gI,b1,b2⟩:=o8 h2 hg
  obtain ⟨vsI,a1,a2⟩:=aZ h2 h8
  obtain ⟨wsI,c1,c2⟩:=ZB hj b2 a2
  exact call h c2 (by simp only[step,d9,s7,a1,b1,c1,aI2,callI];cases C.E.pcall f wsI s<;>rfl)
 ·split at h
  case h_2=>exact h.elim
  rename_i v st' hv
  obtain ⟨vI,s',e,hl⟩:=Rl.stp h1 h2 h3 h4 h5 (bW5 h1 h2 hv)
  exact ⟨vI,s',v,st',e,h,hl⟩
theorem Rl.put_tup {s:St} {frI:Fr} (hr:Rl C st fr s frI) (d:Option Nat):Rl C st (u7 fr d (.tup [])) s (J0 frI d (.tuple #[])):=by
 obtain ⟨μ,F,h1,h2,h3⟩:=hr
 exact ⟨μ,F,h1,h2.put (by simp only[f9,i6];exact ⟨[],rfl,rfl⟩) d,h3⟩
theorem Rl.keep {s:St} {frI:Fr} (hr:Rl C st fr s frI) (ks:List Nat):Rl C st (A8 ks fr) s (u9 ks frI):=by
 obtain ⟨μ,F,h1,h2,h3⟩:=hr
 exact ⟨μ,F,h1,h2.keep ks,h3⟩
theorem fN {s:St} {frI:Fr} (hr:Rl C st fr s frI) {t:Nat} {v:V} (h:j7 fr t=some v):(∀ b,v= .sc (.bool b)->I0 frI t=some (.bool b))/\(∀ l,v= .tup l->∃ l',I0 frI t=some (.tuple l')):=by
 obtain ⟨μ,F,h1,h2,h3⟩:=hr
 obtain ⟨vI,a,b⟩:=h2 t v h
 refine ⟨fun c e=>?_,fun l e=>?_⟩
 ·subst e;rw[b.scv] at a;exact a
 ·subst e;simp only[f9] at b;obtain ⟨vs,rfl,_⟩:=b;exact ⟨_,a⟩
theorem pT:∀ (l:List l5) {fr:D0} {st:n9} {Q:D0->n9->Prop},wpO C l fr st Q->∀ {s:St} {frI:Fr},Rl C st fr s frI->∃ frI' s' fr' st',L5 C.E l frI s=some (frI',s')/\Rl C st' fr' s' frI'/\Q fr' st'
 | [],fr,st,Q,h,s,frI,hr=>⟨frI,s,fr,st,rfl,hr,h⟩
 |⟨d,g,op⟩::l,fr,st,Q,h,s,frI,hr=>by
  simp only[wpO] at h
  split at h
  ·rename_i hg
   obtain ⟨vI,s',v,st',e,hq,hl⟩:=LA h hr
   obtain ⟨frI',s2,fr',st2,e2,h1,h2⟩:=pT l hq (hl d)
   exact ⟨frI',s2,fr',st2,by simp[L5,wanted,e,e2],h1,h2⟩
  ·rename_i _ t want
   split at h
   ·rename_i b hb
    have h9:=(fN hr hb).1 b rfl
    split at h
    ·rename_i hf
     obtain ⟨vI,s',v,st',e,hq,hl⟩:=LA h hr
     obtain ⟨frI',s2,fr',st2,e2,h1,h2⟩:=pT l hq (hl d)
     exact ⟨frI',s2,fr',st2,by simp[L5,wanted,h9,hf,e,e2],h1,h2⟩
    ·rename_i hf
     obtain ⟨frI',s2,fr',st2,e2,h1,h2⟩:=pT l h (hr.put_tup d)
     have:(b==want)=false:=by simpa using hf
     exact ⟨frI',s2,fr',st2,by simp[L5,wanted,h9,this,e2],h1,h2⟩
   ·rename_i l' hb
    obtain ⟨l2,h9⟩:=(fN hr hb).2 l' rfl
    obtain ⟨frI',s2,fr',st2,e2,h1,h2⟩:=pT l h (hr.put_tup d)
    exact ⟨frI',s2,fr',st2,by simp[L5,wanted,h9,e2],h1,h2⟩
   ·exact h.elim
def jX:List (Nat × List A0)->List Bool->Nat->Prop
 | [],_,_=>False
 |_::r,true::ms,b=>jX r ms b
 |(n,bs)::r,false::ms,b=>(n<=b/\b<n+bs.length)\/jX r ms b
 |_::r,[],b=>jX r [] b
theorem qY:∀ (ds:List (Nat × List A0)) (b:Nat),¬ jX ds [] b
 | [],_,h=>h
 |_::r,b,h=>qY r b (by simpa only[jX] using h)
theorem qZ (h:o7):∀ (ds:List (Nat × List A0)) (ms:List Bool) (b:Nat),¬ jX ds ms b->i7 (l6 h ds ms) b=i7 (l6 h ds []) b
 | [],_,_,_=>rfl
 |(n,bs)::r,true::ms,b,hn=>by
  simp only[jX] at hn
  simp only[l6]
  rw[B3,B3,qZ h r ms b hn]
 |(n,bs)::r,false::ms,b,hn=>by
  simp only[jX,not_or] at hn
  simp only[l6]
  rw[B3,aQ4 hn.1,qZ h r ms b hn.2]
 |(n,bs)::r,[],b,hn=>rfl
def Al (μ:Nat->Option Nat) (lo:Nat):List (Nat × List A0)->List (Nat × Nat)->Prop
 | [],[]=>True
 |(n,bs)::r,(o,c)::q=>lo<=n/\bs.length=c/\(∀ k,k<c->μ (o+k)=some (n+k))/\Al μ lo r q
 |_,_=>False
theorem sP (H:E9):∀ (c o i:Nat),j7 (aD9 o c H) i=if o<=i/\i<o+c then none else j7 H i
 |0,o,i=>by rw[aQ4 (by omega)];rfl
 |c+1,o,i=>by
  rw[aD9,N2,sP H c (o+1) i]
  by_cases h:i=o
  ·subst h
   rw[aO9 rfl,aO9 (by omega)]
  ·rw[aQ4 h]
   by_cases h2:o+1<=i/\i<o+1+c
   ·rw[aO9 h2,aO9 (by omega)]
   ·rw[aQ4 h2,aQ4 (by omega)]
theorem bT (H:E9):∀ (vds:List (Nat × Nat)) (ms:List Bool) (o:Nat) (ob:Obj),j7 (Q8 H vds ms) o=some ob->j7 H o=some ob
 | [],_,_,_,h=>h
 |_::r,true::ms,o,ob,h=>bT H r ms o ob (by simpa only[Q8] using h)
 |(i,c)::r,false::ms,o,ob,h=>by
  simp only[Q8,sP] at h
  split at h
  ·cases h
  ·exact bT H r ms o ob h
 |_::r,[],o,ob,h=>bT H r [] o ob (by simpa only[Q8] using h)
theorem YK {μ:Nat->Option Nat} (g4:∀ o o' b,μ o=some b->μ o'=some b->o=o') (H:E9) {lo:Nat}:∀ (ds:List (Nat × List A0)) (vds:List (Nat × Nat)) (ms:List Bool) (o:Nat) (ob:Obj) (b:Nat),Al μ lo ds vds->j7 (Q8 H vds ms) o=some ob->μ o=some b->¬ jX ds ms b
 | [],[],ms,o,ob,b,_,_,_=>fun h=>h
 |(n,bs)::r,(i,c)::q,true::ms,o,ob,b,ha,h,hm=>by
  simp only[Al] at ha
  simp only[Q8] at h
  simp only[jX]
  exact YK g4 H r q ms o ob b ha.2.2.2 h hm
 |(n,bs)::r,(i,c)::q,false::ms,o,ob,b,ha,h,hm=>by
  simp only[Al] at ha
  simp only[Q8,sP] at h
  simp only[jX,not_or]
  refine ⟨fun hb=>?_,?_⟩
  ·have h1:=ha.2.2.1 (b - n) (by omega)
   rw[show n+(b - n)=b by omega] at h1
   have:=g4 o _ b hm h1
   rw[aO9 (by omega)] at h
   cases h
  ·split at h
   ·cases h
   ·exact YK g4 H r q ms o ob b ha.2.2.2 h hm
 |(n,bs)::r,(i,c)::q,[],o,ob,b,ha,h,hm=>qY _ _
 | [],_::_,ms,o,ob,b,ha,_,_=>by simp[Al] at ha
 |_::_,[],ms,o,ob,b,ha,_,_=>by simp[Al] at ha
theorem YL {μ:Nat->Option Nat} {lo:Nat}:∀ (ds:List (Nat × List A0)) (vds:List (Nat × Nat)) (ms:List Bool) (b:Nat),Al μ lo ds vds->b<lo->¬ jX ds ms b
 | [],[],ms,b,_,_=>fun h=>h
 |(n,bs)::r,(i,c)::q,true::ms,b,ha,h=>by
  simp only[Al] at ha
  simp only[jX]
  exact YL r q ms b ha.2.2.2 h
 |(n,bs)::r,(i,c)::q,false::ms,b,ha,h=>by
  simp only[Al] at ha
  simp only[jX,not_or]
  exact ⟨fun hb=>by omega,YL r q ms b ha.2.2.2 h⟩
 |(n,bs)::r,(i,c)::q,[],b,ha,h=>qY _ _
 | [],_::_,ms,b,ha,_=>by simp[Al] at ha
 |_::_,[],ms,b,ha,_=>by simp[Al] at ha
theorem bB4 {μ:Nat->Option Nat} {lo:Nat}:∀ (ds:List (Nat × List A0)) (vds:List (Nat × Nat)) (ms:List Bool) (b:Nat),Al μ lo ds vds->jX ds ms b->∃ o,μ o=some b
 | [],[],ms,b,_,h=>h.elim
 |(n,bs)::r,(i,c)::q,true::ms,b,ha,h=>by
  simp only[Al] at ha
  simp only[jX] at h
  exact bB4 r q ms b ha.2.2.2 h
 |(n,bs)::r,(i,c)::q,false::ms,b,ha,h=>by
  simp only[Al] at ha
  simp only[jX] at h
  rcases h with hb|h
  ·have h1:=ha.2.2.1 (b - n) (by omega)
   rw[show n+(b - n)=b by omega] at h1
   exact ⟨_,h1⟩
  ·exact bB4 r q ms b ha.2.2.2 h
 |(n,bs)::r,(i,c)::q,[],b,ha,h=>(qY _ _ h).elim
 | [],_::_,ms,b,ha,_=>by simp[Al] at ha
 |_::_,[],ms,b,ha,_=>by simp[Al] at ha
theorem Al.mono {μ μ':Nat->Option Nat} {lo:Nat} (hm:∀ o b,μ o=some b->μ' o=some b):∀ (ds:List (Nat × List A0)) (vds:List (Nat × Nat)),Al μ lo ds vds->Al μ' lo ds vds
 | [],[],_=>trivial
 |(n,bs)::r,(i,c)::q,h=>by
  simp only[Al] at h ⊢
  exact ⟨h.1,h.2.1,fun k hk=>hm _ _ (h.2.2.1 k hk),Al.mono hm r q h.2.2.2⟩
 | [],_::_,h=>by simp[Al] at h
 |_::_,[],h=>by simp[Al] at h
theorem SR.pushM {C:C8} {F:Nat->Prop}:∀ (obs:List Obj) (bs:List A0) {st:n9} {s:St} {μ:Nat->Option Nat},SR C st s μ F->FI obs bs->
  ∃ μ',SR C (st.pushL obs) (s.push bs) μ' F/\VW.le (x8 C st s μ F) (x8 C (st.pushL obs) (s.push bs) μ' F)/\(∀ o b,μ o=some b->μ' o=some b)/\obs.length=bs.length/\∀ k,k<obs.length->μ' (st.next+k)=some (s.next+k)
 | [],[],st,s,μ,h,_=>⟨μ,by rw[lL];exact h,by rw[lL];exact VW.le.refl _,fun _ _ e=>e,rfl,fun k hk=>absurd hk (dM7 _)⟩
 |o::r,b::q,st,s,μ,h,ho=>by
  simp only[FI] at ho
  obtain ⟨⟨a1,a2,a3,a4⟩,hr⟩:=ho
  obtain ⟨h1,_,h2,_⟩:=h.push (v:= .tup []) (ob:=some o) (fz:= []) (vI:= .tuple #[]) (bs:= [b]) ⟨a1,a2,a3,b,rfl,fun w' _ _ _ _ _=>⟨by simp only[f9,i6];exact ⟨[],rfl,rfl⟩,a4 w'⟩⟩ rfl
  rw[N5] at h1 h2
  have e:st.push (some o) []=⟨(st.next,o)::st.own,st.next+1,st.ro⟩:=by simp[n9.push,y9]
  rw[e] at h1 h2
  have e2:(s.push [b]).push q=s.push (b::q):=by
   simp only[St.push,B0,bK2,dA2,St.mk.injEq,true_and]
   exact ⟨by omega,trivial⟩
  obtain ⟨μ',j1,j2,j3,j4,j5⟩:=SR.pushM r q h1 hr
  rw[e2] at j1 j2
  have hm:∀ i b',μ i=some b'->TM μ st s (some o) i=some b':=fun i b' e'=>by
   have:=(h.dom i b' e').2.1
   simp only[TM]
   rw[aQ4 (by omega)]
   exact e'
  refine ⟨μ',j1,h2.trans j2,fun i b' e'=>j3 _ _ (hm i b' e'),by simp[j4],fun k hk=>?_⟩
  cases k with
  |zero=>exact j3 _ _ (by simp[TM])
  |succ k=>
   have:=j5 k (by simpa using hk)
   rw[show st.next+(k+1)=st.next+1+k by omega,show s.next+(k+1)=s.next+1+k by omega]
   exact this
 | [],_::_,_,_,_,_,h=>by simp[FI] at h
 |_::_,[],_,_,_,_,h=>by simp[FI] at h
theorem BW:∀ (obs:List Obj) (st:n9),(st.pushL obs).next=st.next+obs.length
 | [],st=>rfl
 |o::r,st=>by rw[n9.pushL,BW r];simp only[bK2];omega
theorem WL {E:G3} {f:Fr} {o:M8} (ho:OM o=true) (s s':St):d9 E f s o=d9 E f s' o:=by
 cases o<;>first|rfl|cases ho
theorem bX2 (s0:St) {st:n9} {p:Nat}:∀ (l:List l5) (h0:List (List Bool)) {ds:List (Nat × List A0)} {fr:D0} {Q:D0->n9->Prop} {frI:Fr} {n:Nat},wpT C l fr st Q->Rl C st fr ⟨l6 s0.heap ds [],n,p⟩ frI->
  ∃ frI' ds' n' fr',U1 C.E s0 l h0 ds frI n=some (frI',ds',n')/\Rl C st fr' ⟨l6 s0.heap ds' [],n',p⟩ frI'/\Q fr' st
 | [],h0,ds,fr,Q,frI,n,h,hr=>⟨frI,ds,n,fr,rfl,hr,h⟩
 |⟨d,g,op⟩::l,h0,ds,fr,Q,frI,n,h,⟨μ,F,h1,h2,h3,h4,h5⟩=>by
  simp only[wpT] at h
  obtain ⟨rfl,ho,h⟩:=h
  split at h
  case h_2=>exact h.elim
  rename_i v hv
  obtain ⟨vI,bs,e1,e2⟩:=nP (n:=n) (p:=n) h1.hr (h2.keep (r9 ⟨d,none,op⟩)) hv
  obtain ⟨rfl,_,e3⟩:=e2
  have gh:Rl C st (u7 fr d v) ⟨l6 s0.heap ((n,[])::ds) [],n+0,p⟩ (J0 frI d vI):=⟨μ,F,h1,h2.put e3 d,h3,h4,h5⟩
  obtain ⟨frI',ds',n',fr',r1,r2,r3⟩:=bX2 s0 l h0.tail h gh
  refine ⟨frI',ds',n',fr',?_,r2,r3⟩
  simp only[U1,wanted,aI2]
  rw[WL ho _ ⟨l6 s0.heap ds [],n,n⟩,e1]
  exact r1
theorem aD2 (s0:St) (F:Nat->Prop) (g5:∀ b,F b->b<s0.next):∀ (l:List l5) (h0:List (List Bool)) {vds:List (Nat × Nat)} {ds:List (Nat × List A0)} {fr:D0} {st:n9} {Q:D0->n9->Prop} {μ:Nat->Option Nat} {frI:Fr} {n:Nat},wpP C l h0 vds fr st Q->
  SR C st ⟨l6 s0.heap ds [],n,s0.prot⟩ μ F->FR (x8 C st ⟨l6 s0.heap ds [],n,s0.prot⟩ μ F) fr frI->VW.le C.w0 (x8 C st ⟨l6 s0.heap ds [],n,s0.prot⟩ μ F)->s0.prot=C.p0->(∀ b,F b->C.w0.F b\/C.p0<=b)->Al μ s0.next ds vds->s0.next<=n->
  ∃ frI' ds' n' fr' st',U1 C.E s0 l h0 ds frI n=some (frI',ds',n')/\Rl C st' fr' ⟨l6 s0.heap ds' [],n',s0.prot⟩ frI'/\Q fr' st'
 | [],h0,vds,ds,fr,st,Q,μ,frI,n,h,h1,h2,h3,h4,h5,h6,h7=>⟨frI,ds,n,fr,st,rfl,⟨μ,F,h1,h2,h3,h4,h5⟩,h⟩
 |⟨d,g,op⟩::l,h0,vds,ds,fr,st,Q,μ,frI,n,h,h1,h2,h3,h4,h5,h6,h7=>by
  have gb:Rl C st fr ⟨l6 s0.heap ds [],n,s0.prot⟩ frI:=⟨μ,F,h1,h2,h3,h4,h5⟩
  let m:=h0.headD []
  let hp:=l6 s0.heap ds m
  let wv:VW:=⟨p9 C.E hp,F,μ,st.next⟩
  have g6:∀ b,F b->i7 hp b=i7 (l6 s0.heap ds []) b:=fun b hb=>qZ _ _ _ _ (YL ds vds m b h6 (g5 b hb))
  have gc:∀ a,(x8 C st ⟨l6 s0.heap ds [],n,s0.prot⟩ μ F).inF a->p9 C.E hp a=p9 C.E (l6 s0.heap ds []) a:=fun a i=>by
   obtain ⟨b,o,sp⟩:=a
   cases sp with
   |none=>rfl
   |some k=>simp only[p9];rw[g6 b i]
  have gd:VW.le (x8 C st ⟨l6 s0.heap ds [],n,s0.prot⟩ μ F) wv:=⟨gc,fun _ h=>h,aQ5 _,fun _ _ _ h=>h⟩
  have gf:VW.le wv (x8 C st ⟨l6 s0.heap ds [],n,s0.prot⟩ μ F):=⟨fun a i=>(gc a i).symm,fun _ h=>h,aQ5 _,fun _ _ _ h=>h⟩
  have g7:HR C.E (Q8 st.own vds m) hp wv:=by
   refine ⟨rfl,fun o ob e hn=>?_,fun b hb=>?_⟩
   ·obtain ⟨b,blk,m1,m2,m3⟩:=h1.obj o ob (bT _ _ _ _ _ e) hn
    exact ⟨b,blk,m1,by rw[qZ _ _ _ _ (YK h1.inj st.own ds vds m o ob b h6 e m1)];exact m2,m3.mono gd⟩
   ·obtain ⟨blk,h9⟩:=(h1.lt b hb).2
    exact ⟨blk,by rw[g6 b hb];exact h9⟩
  have hu:FR wv (A8 (r9 ⟨d,g,op⟩) fr) (u9 (r9 ⟨d,g,op⟩) frI):=(h2.mono gd).keep _
  let PM:V->List Obj->Value->List A0->Prop:=fun v obs vI bs=>∃ μ',SR C (st.pushL obs) ⟨l6 s0.heap ((n,bs)::ds) [],n+bs.length,s0.prot⟩ μ' F/\f9 (x8 C (st.pushL obs) ⟨l6 s0.heap ((n,bs)::ds) [],n+bs.length,s0.prot⟩ μ' F) v vI/\
   VW.le (x8 C st ⟨l6 s0.heap ds [],n,s0.prot⟩ μ F) (x8 C (st.pushL obs) ⟨l6 s0.heap ((n,bs)::ds) [],n+bs.length,s0.prot⟩ μ' F)/\(∀ o b,μ o=some b->μ' o=some b)/\bs.length=obs.length/\∀ k,k<obs.length->μ' (st.next+k)=some (n+k)
  have next:∀ {v:V} {obs:List Obj} {vI:Value} {bs:List A0},PM v obs vI bs->wpP C l h0.tail ((st.next,obs.length)::vds) (u7 fr d v) (st.pushL obs) Q->d9 C.E (u9 (r9 ⟨d,g,op⟩) frI) ⟨hp,n,n⟩ op=some (vI,bs)->wanted (u9 (r9 ⟨d,g,op⟩) frI) g=some true->
    ∃ frI' ds' n' fr' st',U1 C.E s0 (⟨d,g,op⟩::l) h0 ds frI n=some (frI',ds',n')/\Rl C st' fr' ⟨l6 s0.heap ds' [],n',s0.prot⟩ frI'/\Q fr' st':=by
   intro v obs vI bs hd hq he hw
   obtain ⟨μ',q1,q2,q3,q4,q5,q6⟩:=hd
   have g8:Al μ' s0.next ((n,bs)::ds) ((st.next,obs.length)::vds):=by
    simp only[Al]
    exact ⟨h7,q5,q6,Al.mono q4 ds vds h6⟩
   obtain ⟨frI',ds',n',fr',st',e1,e2,e3⟩:=aD2 s0 F g5 l h0.tail (ds:=(n,bs)::ds) (n:=n+bs.length) (frI:=J0 frI d vI) hq q1 ((h2.mono q3).put q2 d) (h3.trans q3) h4 h5 g8 (by omega)
   refine ⟨frI',ds',n',fr',st',?_,e2,e3⟩
   simp only[U1,hw,aI2]
   rw[show d9 C.E (u9 (r9 ⟨d,g,op⟩) frI) ⟨l6 s0.heap ds (h0.headD []),n,n⟩ op=some (vI,bs) from he]
   exact e1
  have one:∀ {v:V} {ob:Option Obj} {vI:Value} {bs:List A0},kC hp wv n v ob [] vI bs->PM v ob.toList vI bs:=by
   intro v ob vI bs hd
   have gi:kC (l6 s0.heap ds []) (x8 C st ⟨l6 s0.heap ds [],n,s0.prot⟩ μ F) n v ob [] vI bs:=by
    cases ob with
    |none=>exact ⟨hd.1,hd.2.1,hd.2.2.mono gf⟩
    |some o=>
     obtain ⟨a1,a2,a3,blk,a4,a5⟩:=hd
     exact ⟨a1,a2,a3,blk,a4,fun w' k1 k2 k3 k4 k5=>a5 w' (gf.trans k1) (fun o ho=>by cases ho) (fun o ho=>by cases ho) k4 k5⟩
   obtain ⟨q1,q2,q3,q4⟩:=h1.push gi rfl
   rw[N5] at q1 q2 q3
   cases ob with
   |none=>
    have e:st.push none []=st:=by simp[n9.push,y9]
    rw[e] at q1 q2 q3
    rw[hd.1] at q1 q2 q3 ⊢
    exact ⟨_,q1,q2,q3,fun _ _ h=>h,rfl,fun k hk=>absurd hk (dM7 _)⟩
   |some o=>
    have e:st.push (some o) []=⟨(st.next,o)::st.own,st.next+1,st.ro⟩:=by simp[n9.push,y9]
    rw[e] at q1 q2 q3
    obtain ⟨_,_,_,blk,a4,_⟩:=hd
    refine ⟨_,q1,q2,q3,fun o' b e=>?_,by rw[a4];rfl,fun k hk=>?_⟩
    ·have:=(h1.dom o' b e).2.1
     simp only[TM]
     rw[aQ4 (by omega)]
     exact e
    ·have:k=0:=by simpa using hk
     subst this
     simp[TM]
  have skip:wpP C l h0.tail ((st.next,0)::vds) (u7 fr d (.tup [])) st Q->wanted (u9 (r9 ⟨d,g,op⟩) frI) g=some false->
    ∃ frI' ds' n' fr' st',U1 C.E s0 (⟨d,g,op⟩::l) h0 ds frI n=some (frI',ds',n')/\Rl C st' fr' ⟨l6 s0.heap ds' [],n',s0.prot⟩ frI'/\Q fr' st':=by
   intro hq hw
   have g8:Al μ s0.next ((n,[])::ds) ((st.next,0)::vds):=by
    simp only[Al]
    exact ⟨h7,rfl,fun k hk=>absurd hk (dM7 _),h6⟩
   obtain ⟨frI',ds',n',fr',st',e1,e2,e3⟩:=aD2 s0 F g5 l h0.tail (ds:=(n,[])::ds) (n:=n) (frI:=J0 frI d (.tuple #[])) hq h1 (h2.put (by simp only[f9,i6];exact ⟨[],rfl,rfl⟩) d) h3 h4 h5 g8 h7
   refine ⟨frI',ds',n',fr',st',?_,e2,e3⟩
   simp only[U1,hw,aI2]
   exact e1
  have run:∀ {Q':V->List Obj->Prop},OY C (A8 (r9 ⟨d,g,op⟩) fr) (Q8 st.own vds m) st op Q'->∃ v obs vI bs,PM v obs vI bs/\Q' v obs/\d9 C.E (u9 (r9 ⟨d,g,op⟩) frI) ⟨hp,n,n⟩ op=some (vI,bs):=by
   intro Q' hq
   have gj:∀ b blk,i7 hp b=some blk->b<n:=fun b blk hb=>by
    by_cases hh:jX ds m b
    ·obtain ⟨o,e⟩:=bB4 ds vds m b h6 hh;exact (h1.dom o b e).1
    ·rw[qZ _ _ _ _ hh] at hb;exact h1.hb b blk hb
   have call:∀ {f:FuncId} {ws:List V} {wsI:List Value},aD3 C f ws (Q8 st.own vds m) st.next Q'->i6 wv ws wsI->d9 C.E (u9 (r9 ⟨d,g,op⟩) frI) ⟨hp,n,n⟩ op=C.E.pcall f wsI ⟨hp,n,n⟩->
     ∃ v obs vI bs,PM v obs vI bs/\Q' v obs/\d9 C.E (u9 (r9 ⟨d,g,op⟩) frI) ⟨hp,n,n⟩ op=some (vI,bs):=by
    intro f ws wsI hc hw he
    let μm:Nat->Option Nat:=fun o=>if (j7 (Q8 st.own vds m) o).isSome then μ o else none
    have hμm:∀ o b,μm o=some b->μ o=some b/\∃ ob,j7 (Q8 st.own vds m) o=some ob:=fun o b e=>by
     simp only[μm] at e
     split at e
     ·rename_i hs;exact ⟨e,dJ5.1 hs⟩
     ·cases e
    have hy:VW.le wv ⟨p9 C.E hp,F,μm,st.next⟩:=⟨fun _ _=>rfl,fun _ h=>h,aQ5 _,fun o b _ e=>(hμm o b e).1⟩
    have g9:SR (C1 C.E ⟨hp,n,n⟩ wv) ⟨Q8 st.own vds m,st.next,st.next⟩ ⟨hp,n,n⟩ μm F:=by
     refine ⟨?_,?_,?_,?_,?_,?_,?_,?_,aQ5 _,?_,gj,aQ5 _,?_⟩
     ·intro o ob e hn
      obtain ⟨b,blk,m1,m2,m3⟩:=g7.obj o ob e hn
      exact ⟨b,blk,by simp only[μm,e,dL8,if_true];exact m1,m2,m3.mono hy⟩
     ·intro o ob b e e2 hz
      have e3:=bT _ _ _ _ _ e
      refine ⟨(h1.wr o ob b e3 (hμm o b e2).1 hz).1,fun ga=>?_⟩
      have:=(h1.own o ob e3).1
      simp only at ga;omega
     ·intro o ob b e e2 hz
      exact h1.fz o ob b (bT _ _ _ _ _ e) (hμm o b e2).1 hz
     ·intro o o' b e e'
      exact h1.inj o o' b (hμm o b e).1 (hμm o' b e').1
     ·intro o b e
      obtain ⟨e1,ob,e2⟩:=hμm o b e
      obtain ⟨d1,d2,ob',d3,d4⟩:=h1.dom o b e1
      have:=bT _ _ _ _ _ e2
      rw[d3] at this
      cases this
      exact ⟨d1,d2,_,e2,d4⟩
     ·intro b hb
      exact ⟨(h1.lt b hb).1,g7.ex b hb⟩
     ·intro b hb
      obtain ⟨blk,c1,c2⟩:=h1.cl b hb
      exact ⟨blk,by rw[show (⟨hp,n,n⟩:St).heap=hp from rfl,g6 b hb];exact c1,c2⟩
     ·intro b hb
      exact ⟨hb,rfl⟩
     ·intro o ob e
      exact h1.own o ob (bT _ _ _ _ _ e)
     ·intro o b e ga
      have:=(h1.dom o b (hμm o b e).1).2.1
      simp only at ga;omega
    rcases hc with ⟨v,hc,hv⟩|⟨v,ob,⟨o1,o2,o3,hc⟩,hv⟩|⟨v,obs,hc,hv⟩
    ·obtain ⟨vI,e1,e2⟩:=hc ⟨hp,n,n⟩ μm F wsI wv g9 (i6.mono hy hw)
     exact ⟨v,[],vI,[],one (ob:=none) (.pure (e2 wv)),hv,by rw[he];exact e1⟩
    ·obtain ⟨vI,blk,e1,e2⟩:=hc ⟨hp,n,n⟩ μm F wsI wv g9 (i6.mono hy hw)
     exact ⟨v,[ob],vI,[blk],one (ob:=some ob) ⟨o1,o2,o3,blk,rfl,fun w' _ _ _ k4 k5=>e2 w' k4 k5⟩,hv,by rw[he];exact e1⟩
    ·obtain ⟨vI,bs,e1,e2,e3⟩:=hc ⟨hp,n,n⟩ μm F wsI wv g9 (i6.mono hy hw)
     obtain ⟨μ',q1,q2,q3,q4,q5⟩:=h1.pushM obs bs e2
     exact ⟨v,obs,vI,bs,⟨μ',q1,e3 _ (by show st.next+obs.length<=(st.pushL obs).next;rw[BW];exact aQ5 _) q5,q2,q3,q4.symm,q5⟩,hv,by rw[he];exact e1⟩
   unfold OY at hq
   split at hq
   ·split at hq
    case h_2=>exact hq.elim
    rename_i vs h8
    obtain ⟨vsI,a1,a2⟩:=aZ hu h8
    exact call hq a2 (by simp only[d9,a1,aI2])
   ·split at hq
    case h_2=>exact hq.elim
    rename_i g' vs hg h8
    split at hq
    case h_2=>exact hq.elim
    rename_i f ws hj
    obtain ⟨gI,b1,b2⟩:=o8 hu hg
    obtain ⟨vsI,a1,a2⟩:=aZ hu h8
    obtain ⟨wsI,c1,c2⟩:=sZ hj b2 a2
    exact call hq c2 (by simp only[d9,a1,b1,c1,aI2])
   ·split at hq
    case h_2=>exact hq.elim
    rename_i v ob fz hv
    split at hq
    case isFalse=>exact hq.elim
    rename_i hz
    rw[List.isEmpty_iff] at hz
    subst hz
    obtain ⟨vI,bs,e1,e2⟩:=nP (n:=n) (p:=n) g7 hu hv
    exact ⟨v,ob.toList,vI,bs,one e2,hq,e1⟩
  have last:h0.headD []= []->wpL C (A8 (r9 ⟨d,g,op⟩) fr) st op (fun v=>wpT C l (u7 fr d v) st Q)->wanted (u9 (r9 ⟨d,g,op⟩) frI) g=some true->
    ∃ frI' ds' n' fr' st',U1 C.E s0 (⟨d,g,op⟩::l) h0 ds frI n=some (frI',ds',n')/\Rl C st' fr' ⟨l6 s0.heap ds' [],n',s0.prot⟩ frI'/\Q fr' st':=by
   intro hm hq hw
   unfold wpL at hq
   split at hq
   case h_2=>exact hq.elim
   rename_i f xs
   split at hq
   case h_2=>exact hq.elim
   rename_i vs h8
   obtain ⟨v,hv,hq⟩:=hq
   obtain ⟨vsI,a1,a2⟩:=aZ (h2.keep (r9 ⟨d,g,.callF f xs⟩)) h8
   obtain ⟨vI,bs,μ',F',e,q1,q2,q3,q4⟩:=hq ⟨l6 s0.heap ds [],n,s0.prot⟩ μ F vsI h1 a2
   have gk:Rl C st (u7 fr d v) ⟨l6 s0.heap ((n,bs)::ds) [],n+bs.length,s0.prot⟩ (J0 frI d vI):=⟨μ',F',q1,(h2.mono q3).put q2 d,h3.trans q3,h4,fun b hb=>by
    rcases q4 b hb with hb|hb
    ·exact h5 b hb
    ·exact .inr (by rw[<- h4];exact hb)⟩
   obtain ⟨frI',ds',n',fr',r1,r2,r3⟩:=bX2 s0 l h0.tail hv gk
   refine ⟨frI',ds',n',fr',st,?_,r2,r3⟩
   simp only[U1,hw,aI2,hm,d9,a1]
   rw[show C.E.pcall f vsI ⟨l6 s0.heap ds [],n,n⟩=some (vI,bs) from e]
   exact r1
  simp only[wpP] at h
  split at h
  ·rcases h with h|⟨hm,h⟩
   ·obtain ⟨v,ob,vI,bs,r1,r2,r3⟩:=run h
    exact next r1 r2 r3 rfl
   ·exact last hm h rfl
  ·rename_i _ t want
   have ht:t ∈ r9 ⟨d,some (t,want),op⟩:=by simp[r9]
   split at h
   ·rename_i b hb
    have h9:=(fN gb hb).1 b rfl
    split at h
    ·rename_i hf
     have gg:wanted (u9 (r9 ⟨d,some (t,want),op⟩) frI) (some (t,want))=some true:=by simp only[wanted];rw[L8 _ _ _ ht,h9];simp[hf]
     rcases h with h|⟨hm,h⟩
     ·obtain ⟨v,ob,vI,bs,r1,r2,r3⟩:=run h
      exact next r1 r2 r3 gg
     ·exact last hm h gg
    ·rename_i hf
     have gl:(b==want)=false:=by simpa using hf
     exact skip h (by simp only[wanted];rw[L8 _ _ _ ht,h9];simp[gl])
   ·rename_i l' hb
    obtain ⟨l2,h9⟩:=(fN gb hb).2 l' rfl
    exact skip h (by simp only[wanted];rw[L8 _ _ _ ht,h9];rfl)
   ·exact h.elim
theorem eZ:∀ (c:AC) {fr:D0} {st:n9} {P:B9},OX C c fr st P->DV C (C7 C.E c) fr st P
 | .skip,fr,st,P,h,frI,s,hr=>⟨.normal,frI,s,rfl,fr,st,hr,h⟩
 | .ops l ks,fr,st,P,h,frI,s,hr=>by
  obtain ⟨frI',s',fr',st',e,h1,h2⟩:=pT l h hr
  exact ⟨.normal,u9 ks frI',s',by simp[C7,e],A8 ks fr',st',h1.keep ks,h2⟩
 | .draw pre tail h0 ks,fr,st,P,h,frI,s,hr=>by
  simp only[OX] at h
  obtain ⟨μ,F,h1,h2,h3,h4,h5⟩:=hr
  obtain ⟨frI',ds,n,fr',st',e,g1,g2⟩:=aD2 s F (fun b hb=>(h1.lt b hb).1) pre h0 (ds:= []) (n:=s.next) (frI:=frI) h h1 h2 h3 h4 h5 trivial (aQ5 _)
  obtain ⟨frI2,s2,fr2,st2,e2,k1,k2⟩:=pT tail g2 g1
  refine ⟨.normal,u9 ks frI2,s2,?_,A8 ks fr2,st2,k1.keep ks,k2⟩
  simp only[C7,e,aI2]
  rw[e2]
  rfl
 | .drawW pre tail ks,fr,st,P,h,frI,s,hr=>h frI s hr
 | .seq a b,fr,st,P,h,frI,s,hr=>by
  obtain ⟨ex,frI',s',e,fr',st',h1,h2⟩:=eZ a h frI s hr
  cases ex with
  |normal=>
   obtain ⟨ex2,frI2,s2,e2,fr2,st2,k1,k2⟩:=eZ b h2 frI' s' h1
   exact ⟨ex2,frI2,s2,by simp[C7,e,e2],fr2,st2,k1,k2⟩
  |exit i=>exact ⟨.exit i,frI',s',by simp[C7,e],fr',st',h1,h2⟩
  |ret=>exact ⟨.ret,frI',s',by simp[C7,e],fr',st',h1,h2⟩
 | .cond c t e,fr,st,P,h,frI,s,hr=>by
  simp only[OX] at h
  split at h
  case h_2=>exact h.elim
  rename_i b hb
  obtain ⟨μ,F,h1,h2,h3⟩:=hr
  obtain ⟨vI,a1,a2⟩:=o8 h2 hb
  rw[a2.scv] at a1
  split at h
  ·rename_i g0
   subst g0
   obtain ⟨ex,frI',s',e1,fr',st',k1,k2⟩:=eZ t h frI s ⟨μ,F,h1,h2,h3⟩
   exact ⟨ex,frI',s',by simp[C7,a1,e1],fr',st',k1,k2⟩
  ·rename_i g0
   simp only[cB6] at g0
   subst g0
   obtain ⟨ex,frI',s',e1,fr',st',k1,k2⟩:=eZ e h frI s ⟨μ,F,h1,h2,h3⟩
   exact ⟨ex,frI',s',by simp[C7,a1,e1],fr',st',k1,k2⟩
 | .block id b,fr,st,P,h,frI,s,hr=>by
  obtain ⟨ex,frI',s',e,fr',st',h1,h2⟩:=eZ b h frI s hr
  cases ex with
  |normal=>exact ⟨.normal,frI',s',by simp[C7,e],fr',st',h1,h2⟩
  |ret=>exact ⟨.ret,frI',s',by simp[C7,e],fr',st',h1,h2⟩
  |exit i=>
   simp only at h2
   by_cases hi:i=id
   ·rw[aO9 hi] at h2
    exact ⟨.normal,frI',s',by simp only[C7,e,aX8];rw[aO9 (j9.2 hi)],fr',st',h1,h2⟩
   ·rw[aQ4 hi] at h2
    exact ⟨.exit i,frI',s',by simp only[C7,e,aX8];rw[aQ4 (by rw[j9];exact hi)],fr',st',h1,h2⟩
 | .loop ks b,fr,st,P,h,frI,s,hr=>h frI s hr
 | .rangeF g ps ks a b,fr,st,P,h,frI,s,hr=>h frI s hr
 | .exit id,fr,st,P,h,frI,s,hr=>⟨.exit id,frI,s,rfl,fr,st,hr,h⟩
 | .ret,fr,st,P,h,frI,s,hr=>⟨.ret,frI,s,rfl,fr,st,hr,h⟩
 | .bad,fr,st,P,h,frI,s,hr=>h.elim
def K7 (C:C8) (fr:D0) (st:n9) (fr':D0) (st':n9):Prop:=∀ s frI,Rl C st fr s frI->Rl C st' fr' s frI
theorem K7.refl (fr:D0) (st:n9):K7 C fr st fr st:=fun _ _ h=>h
def bB0 (C:C8) (I:Nat->D0->n9->Prop) (m:Nat) (P:B9):B9
 | .normal,fr,st=>∃ m' fr' st',m'<m/\K7 C fr st fr' st'/\I m' fr' st'
 |ex,fr,st=>P ex fr st
theorem cL6 {ks:List Nat} {b:AC} (I:Nat->D0->n9->Prop) (g3:∀ m fr st,I m fr st->OX C b (A8 ks fr) st (bB0 C I m P)):
  ∀ (N m:Nat) (fr:D0) (st:n9) (frI:Fr) (s:St),I m fr st->m<N->Rl C st fr s frI->∃ ex frI' s',iter (fun fr s=>C7 C.E b (u9 ks fr) s) N frI s=some (ex,frI',s')/\∃ fr' st',Rl C st' fr' s' frI'/\P ex fr' st'
 |0,m,fr,st,frI,s,hi,hm,hr=>absurd hm (dM7 _)
 |N+1,m,fr,st,frI,s,hi,hm,hr=>by
  obtain ⟨ex,frI',s',e,fr',st',h1,h2⟩:=eZ b (g3 m fr st hi) (u9 ks frI) s (hr.keep ks)
  cases ex with
  |normal=>
   obtain ⟨m',fr2,st2,gn,hw,gm⟩:=h2
   obtain ⟨ex3,frI3,s3,e3,fr3,st3,k1,k2⟩:=cL6 I g3 N m' fr2 st2 frI' s' gm (by omega) (hw s' frI' h1)
   exact ⟨ex3,frI3,s3,by simp only[iter,e];exact e3,fr3,st3,k1,k2⟩
  |exit i=>exact ⟨.exit i,frI',s',by simp only[iter,e],fr',st',h1,h2⟩
  |ret=>exact ⟨.ret,frI',s',by simp only[iter,e],fr',st',h1,h2⟩
theorem bG3 {ks:List Nat} {b:AC} (I:Nat->D0->n9->Prop) (m:Nat) (fr':D0) (st':n9) (hw:K7 C fr st fr' st') (hi:I m fr' st') (hm:m<C.E.rounds) (g3:∀ m fr st,I m fr st->OX C b (A8 ks fr) st (bB0 C I m P)):
  DV C (C7 C.E (.loop ks b)) fr st P:=fun frI s hr=>by
 obtain ⟨ex,frI',s',e,h⟩:=cL6 I g3 C.E.rounds m fr' st' frI s hi hm (hw s frI hr)
 exact ⟨ex,frI',s',e,h⟩
end
mutual
def aP:V->List Nat
 | .ref o _ _ _=> [o]
 | .gr _ o _=> [o]
 | .ptr o _=> [o]
 | .agg l=>jV l
 | .tup l=>jV l
 | .fn _ a b=>jV a++jV b
 | .ifc _ v=>aP v
 |_=> []
def jV:List V->List Nat
 | []=> []
 |v::r=>aP v++jV r
end
mutual
def Cl (H:E9):V->Prop
 | .sc _=>True
 | .sl s n l=>EQ (.sl s n l)=true
 | .slk _ _ _ _=>True
 | .dp _ _=>True
 | .ref o _ _ _=>∃ ob,j7 H o=some ob/\ob.none=false
 | .gr s o n=>∃ t e z l,j7 H o=some (.gro t e z l)/\(n=0↔l= [])
 | .ptr o _=>∃ ob,j7 H o=some ob/\ob.none=false
 | .agg l=>YF H l
 | .tup l=>YF H l
 | .fn _ a b=>YF H a/\YF H b
 | .ifc _ v=>Cl H v
 | .dead=>False
 | .tok _=>False
def YF (H:E9):List V->Prop
 | []=>True
 |v::r=>Cl H v/\YF H r
end
inductive VR (H:E9) (v:V):Nat->Prop
 |root (o:Nat):o ∈ aP v->VR H v o
 |box (o o1:Nat) (t:TypeId) (e:Nat) (l:List V):VR H v o1->j7 H o1=some (.box t e l)->o ∈ jV l->VR H v o
structure nT (H:E9) (v:V):Prop where
 cl:Cl H v
 box:∀ o t e l,j7 H o=some (.box t e l)->YF H l
 all:∀ o ob,j7 H o=some ob->ob.none=false->VR H v o
def aX (n0:Nat) (done:List Nat):o7->Nat
 | []=>0
 |(j,b)::r=>(if p5 j done then 0 else (B8 n0 b.cells).length)+aX n0 done r
theorem VC (n0:Nat):∀ h:o7,aX n0 [] h=xS n0 h
 | []=>rfl
 |(j,b)::r=>by simp[aX,xS,p5,VC n0 r]
theorem VD (x i j:Nat) (done:List Nat):(if p5 j (i::done)=true then 0 else x)<=(if p5 j done=true then 0 else x):=by
 have h:p5 j done=true->p5 j (i::done)=true:=fun h=>(m7 _ _).2 (cR3 _ ((m7 _ _).1 h))
 by_cases h1:p5 j (i::done)=true
 ·rw[aO9 h1];exact bA5 _
 ·rw[aQ4 h1,aQ4 (fun h2=>h1 (h h2))];exact aQ5 _
theorem JG (n0:Nat) (i:Nat) (done:List Nat):∀ h:o7,aX n0 (i::done) h<=aX n0 done h
 | []=>aQ5 _
 |(j,b)::r=>by
  have ih:=JG n0 i done r
  simp only[aX]
  have:=VD (B8 n0 b.cells).length i j done
  omega
theorem JF (n0:Nat) (i:Nat) (done:List Nat) (hi:¬ p5 i done=true):∀ (h:o7) (b:A0),i7 h i=some b->aX n0 (i::done) h+(B8 n0 b.cells).length<=aX n0 done h
 | [],b,h=>by cases h
 |(j,c)::r,b,h=>by
  rw[p7] at h
  simp only[aX]
  split at h
  ·rename_i h0
   cases h
   subst h0
   have:=JG n0 i done r
   rw[aO9 ((m7 _ _).2 dB6),aQ4 hi]
   omega
  ·rename_i h0
   have ih:=JF n0 i done hi r b h
   have:=VD (B8 n0 c.cells).length i j done
   omega
theorem lP {n0:Nat} {h:o7} {R:Nat->Prop} (hR:∀ b,R b->n0<=b->∃ blk,i7 h b=some blk/\∀ i ∈ B8 n0 blk.cells,R i):∀ (f:Nat) (todo done:List Nat),(∀ i ∈ todo,n0<=i/\R i)->todo.length+aX n0 done h<=f->∃ d,bZ n0 h f todo done=some d
 |f,[],done,_,_=>⟨done,by cases f<;>rfl⟩
 |0,_::_,done,_,hf=>by simp at hf
 |f+1,i::todo,done,ht,hf=>by
  simp only[bZ]
  rw[bK2] at hf
  by_cases hi:p5 i done=true
  ·rw[aO9 hi]
   exact lP hR f todo done (fun j hj=>ht j (cR3 _ hj)) (by omega)
  ·rw[aQ4 hi]
   obtain ⟨h1,h2⟩:=ht i dB6
   obtain ⟨blk,hb,hc⟩:=hR i h2 h1
   rw[hb]
   have:=JF n0 i done hi h blk hb
   refine lP hR f _ _ (fun j hj=>?_) (by rw[bA4];omega)
   rcases cB1.1 hj with hj|hj
   ·exact ⟨iX _ j hj,hc j hj⟩
   ·exact ht j (cR3 _ hj)
theorem NX {n0:Nat} {h:o7} {R:Nat->Prop} (hR:∀ b,R b->n0<=b->∃ blk,i7 h b=some blk/\∀ i ∈ B8 n0 blk.cells,R i) (l:List Nat) (hl:∀ i ∈ l,n0<=i/\R i):∃ d,lO n0 h l=some d:=by
 unfold lO
 split
 ·exact ⟨_,rfl⟩
 ·exact lP hR _ l [] hl (by rw[VC];exact aQ5 _)
theorem rM {n0:Nat} {h:o7} {ord:List Nat}:∀ (l:List Nat),(∀ i ∈ l,∃ b,i7 h i=some b)->∃ bs,bW n0 h ord l=some bs
 | [],_=>⟨[],rfl⟩
 |i::r,hl=>by
  obtain ⟨b,hb⟩:=hl i dB6
  obtain ⟨bs,h4⟩:=rM (n0:=n0) (ord:=ord) r fun j hj=>hl j (cR3 _ hj)
  exact ⟨{b with cells:=U9 (C9 n0 ord) b.cells}::bs,by simp only[bW,hb,h4,aI2,aX8]⟩
mutual
theorem tT:∀ (v:Value),x9 0 v= []->∀ n,x9 n v= []
 | .pointer none,_,n=>rfl
 | .pointer (some ⟨b,o,none⟩),_,n=>rfl
 | .pointer (some ⟨b,o,some k⟩),h,n=>by simp[x9,r6] at h
 | .slice none _ _,_,n=>rfl
 | .slice (some ⟨b,o,none⟩) _ _,_,n=>rfl
 | .slice (some ⟨b,o,some k⟩) _ _,h,n=>by simp[x9,r6] at h
 | .func fn ⟨x⟩ ⟨y⟩,h,n=>by
  simp only[x9,dL1] at h ⊢
  exact ⟨dG x h.1 n,dG y h.2 n⟩
 | .iface t v,h,n=>by simp only[x9] at h ⊢;exact tT v h n
 | .agg ⟨l⟩,h,n=>by simp only[x9] at h ⊢;exact dG l h n
 | .tuple ⟨l⟩,h,n=>by simp only[x9] at h ⊢;exact dG l h n
 | .bool _,_,n=>rfl
 | .int _ _,_,n=>rfl
 | .float _ _,_,n=>rfl
 | .complex _ _ _,h,n=>by simp[x9] at h
 | .string _,_,n=>rfl
 | .map _,_,n=>rfl
 | .chan none,_,n=>rfl
 | .chan (some d),h,n=>by simp[x9] at h
 | .nilFunc,_,n=>rfl
 | .nilIface,_,n=>rfl
theorem dG:∀ (l:List Value),B8 0 l= []->∀ n,B8 n l= []
 | [],_,n=>rfl
 |v::r,h,n=>by
  simp only[B8,dL1] at h ⊢
  exact ⟨tT v h.1 n,dG r h.2 n⟩
end
mutual
theorem aJ4 (f:Nat->Nat) (n:Nat):∀ (v:Value) (j:Nat),j ∈ x9 n (U0 f v)->(∃ i ∈ x9 0 v,j=f i)\/(j=n/\∀ m,m ∈ x9 m v)
 | .pointer none,j,h=>by simp[U0,J5,x9,r6] at h
 | .pointer (some ⟨b,o,none⟩),j,h=>by simp[U0,J5,x9,r6] at h
 | .pointer (some ⟨b,o,some k⟩),j,h=>by
  simp only[U0,J5,x9,r6] at h ⊢
  split at h
  ·simp at h;left;exact ⟨b,by simp,h⟩
  ·cases h
 | .slice none _ _,j,h=>by simp[U0,J5,x9,r6] at h
 | .slice (some ⟨b,o,none⟩) _ _,j,h=>by simp[U0,J5,x9,r6] at h
 | .slice (some ⟨b,o,some k⟩) _ _,j,h=>by
  simp only[U0,J5,x9,r6] at h ⊢
  split at h
  ·simp at h;left;exact ⟨b,by simp,h⟩
  ·cases h
 | .func fn ⟨x⟩ ⟨y⟩,j,h=>by
  simp only[U0,x9,cB1] at h ⊢
  rcases h with h|h
  ·rcases fP f n x j h with ⟨i,hi,e⟩|⟨e,hm⟩
   ·exact .inl ⟨i,.inl hi,e⟩
   ·exact .inr ⟨e,fun m=> .inl (hm m)⟩
  ·rcases fP f n y j h with ⟨i,hi,e⟩|⟨e,hm⟩
   ·exact .inl ⟨i,.inr hi,e⟩
   ·exact .inr ⟨e,fun m=> .inr (hm m)⟩
 | .iface t v,j,h=>by simp only[U0,x9] at h ⊢;exact aJ4 f n v j h
 | .agg ⟨l⟩,j,h=>by simp only[U0,x9] at h ⊢;exact fP f n l j h
 | .tuple ⟨l⟩,j,h=>by simp only[U0,x9] at h ⊢;exact fP f n l j h
 | .bool _,j,h=>by simp[U0,x9] at h
 | .int _ _,j,h=>by simp[U0,x9] at h
 | .float _ _,j,h=>by simp[U0,x9] at h
 | .complex _ _ _,j,h=>by
  simp only[U0,x9,cZ2] at h
  right
  exact ⟨h,fun m=>by simp[x9]⟩
 | .string _,j,h=>by simp[U0,x9] at h
 | .map _,j,h=>by simp[U0,x9] at h
 | .chan none,j,h=>by simp[U0,x9] at h
 | .chan (some d),j,h=>by
  simp only[U0,x9] at h ⊢
  split at h
  ·simp at h;left;exact ⟨d,by simp,h⟩
  ·cases h
 | .nilFunc,j,h=>by simp[U0,x9] at h
 | .nilIface,j,h=>by simp[U0,x9] at h
theorem fP (f:Nat->Nat) (n:Nat):∀ (l:List Value) (j:Nat),j ∈ B8 n (U9 f l)->(∃ i ∈ B8 0 l,j=f i)\/(j=n/\∀ m,m ∈ B8 m l)
 | [],j,h=>by simp[U9,B8] at h
 |v::r,j,h=>by
  simp only[U9,B8,cB1] at h ⊢
  rcases h with h|h
  ·rcases aJ4 f n v j h with ⟨i,hi,e⟩|⟨e,hm⟩
   ·exact .inl ⟨i,.inl hi,e⟩
   ·exact .inr ⟨e,fun m=> .inl (hm m)⟩
  ·rcases fP f n r j h with ⟨i,hi,e⟩|⟨e,hm⟩
   ·exact .inl ⟨i,.inr hi,e⟩
   ·exact .inr ⟨e,fun m=> .inr (hm m)⟩
end
theorem SQ {n:Nat}:∀ (l:List Value) (k:Nat) (x:Value),l[k]? =some x->∀ i ∈ x9 n x,i ∈ B8 n l:=by
 intro l
 induction l with
 |nil=>intro k x h;simp at h
 |cons y l ih=>
  intro k x h i hi
  simp only[B8,cB1]
  cases k with
  |zero=>simp at h;subst h;exact .inl hi
  |succ k=>simp at h;exact .inr (ih k x h i hi)
theorem bQ3 {f:Nat->Nat}:∀ (l:List Value) (k:Nat),(U9 f l)[k]? =(l[k]?).map (U0 f):=by
 intro l
 induction l with
 |nil=>intro k;simp[U9]
 |cons x l ih=>intro k;cases k<;>simp[U9,ih]
mutual
theorem bK1 {n:Nat}:∀ (v:Value) (j:Nat),j ∈ x9 0 v->n<=j->j ∈ x9 n v
 | .pointer none,j,h,_=>by simp[x9,r6] at h
 | .pointer (some ⟨b,o,none⟩),j,h,_=>by simp[x9,r6] at h
 | .pointer (some ⟨b,o,some k⟩),j,h,hj=>by
  simp only[x9,r6] at h ⊢
  rw[aO9 (by simp)] at h
  simp at h;subst h
  rw[aO9 (by rw[bA2];exact hj)];simp
 | .slice none _ _,j,h,_=>by simp[x9,r6] at h
 | .slice (some ⟨b,o,none⟩) _ _,j,h,_=>by simp[x9,r6] at h
 | .slice (some ⟨b,o,some k⟩) _ _,j,h,hj=>by
  simp only[x9,r6] at h ⊢
  rw[aO9 (by simp)] at h
  simp at h;subst h
  rw[aO9 (by rw[bA2];exact hj)];simp
 | .func fn ⟨x⟩ ⟨y⟩,j,h,hj=>by
  simp only[x9,cB1] at h ⊢
  exact h.imp (fun h=>mU x j h hj) (fun h=>mU y j h hj)
 | .iface t v,j,h,hj=>by simp only[x9] at h ⊢;exact bK1 v j h hj
 | .agg ⟨l⟩,j,h,hj=>by simp only[x9] at h ⊢;exact mU l j h hj
 | .tuple ⟨l⟩,j,h,hj=>by simp only[x9] at h ⊢;exact mU l j h hj
 | .bool _,j,h,_=>by simp[x9] at h
 | .int _ _,j,h,_=>by simp[x9] at h
 | .float _ _,j,h,_=>by simp[x9] at h
 | .complex _ _ _,j,h,hj=>by simp[x9] at h ⊢;omega
 | .string _,j,h,_=>by simp[x9] at h
 | .map _,j,h,_=>by simp[x9] at h
 | .chan none,j,h,_=>by simp[x9] at h
 | .chan (some d),j,h,hj=>by
  simp only[x9] at h ⊢
  rw[aO9 (by simp)] at h
  simp at h;subst h
  rw[aO9 (by rw[bA2];exact hj)];simp
 | .nilFunc,j,h,_=>by simp[x9] at h
 | .nilIface,j,h,_=>by simp[x9] at h
theorem mU {n:Nat}:∀ (l:List Value) (j:Nat),j ∈ B8 0 l->n<=j->j ∈ B8 n l
 | [],j,h,_=>by simp[B8] at h
 |v::r,j,h,hj=>by
  simp only[B8,cB1] at h ⊢
  exact h.imp (fun h=>bK1 v j h hj) (fun h=>mU r j h hj)
end
mutual
theorem MY {w:VW} {H:E9} {n0:Nat}:∀ {v:V} {vI:Value},f9 w v vI->Cl H v->(∀ o ob,j7 H o=some ob->ob.none=false->∃ b,w.μ o=some b)->∀ i ∈ x9 n0 vI,w.F i\/∃ o ∈ aP v,w.μ o=some i
 | .sc x,vI,h,_,_,i,hi=>by rw[h.scv,V0 n0 x (by rw[<- h.scv];exact h.scv▸h.ok)] at hi;cases hi
 | .sl s n l,vI,h,hc,_,i,hi=> .inl (cL4 (d:= .sl s n l) (by simpa only[f9] using h) (by simpa only[Cl] using hc) i hi)
 | .slk s n c l,vI,h,_,_,i,hi=>by
  simp only[f9] at h
  rcases h with ⟨_,_,⟨⟨b,o,sp⟩,rfl,k,_⟩|⟨_,_,_,_,rfl⟩⟩
  ·cases sp with
   |none=>simp[x9,r6] at hi
   |some sp=>
    simp only[x9,r6] at hi
    split at hi
    ·simp at hi;subst hi;exact .inl k
    ·cases hi
  ·simp[x9,r6] at hi
 | .dp l o,vI,h,_,_,i,hi=>by
  simp only[f9] at h
  obtain ⟨⟨b,k,sp⟩,rfl,hk,_⟩:=h
  cases sp with
  |none=>simp[C6,x9,r6] at hi
  |some sp=>
   simp only[C6,x9,r6] at hi
   split at hi
   ·simp at hi;subst hi;exact .inl hk
   ·cases hi
 | .ref o k n c,vI,h,hc,hm,i,hi=>by
  simp only[f9] at h
  obtain ⟨_,_,b',rfl,q⟩:=h
  simp only[x9,r6] at hi
  split at hi
  ·simp at hi;subst hi
   simp only[Cl] at hc
   obtain ⟨ob,e1,e2⟩:=hc
   obtain ⟨b,hb⟩:=hm o ob e1 e2
   exact .inr ⟨o,by simp[aP],by rw[q b hb];exact hb⟩
  ·cases hi
 | .gr s o n,vI,h,hc,hm,i,hi=>by
  simp only[f9] at h
  rcases h with ⟨_,⟨_,rfl|⟨_,⟨b,o',sp⟩,c,rfl,k⟩⟩|⟨hn,b',rfl,q⟩⟩
  ·simp[x9,r6] at hi
  ·cases sp with
   |none=>simp[x9,r6] at hi
   |some sp=>
    simp only[x9,r6] at hi
    split at hi
    ·simp at hi;subst hi;exact .inl k
    ·cases hi
  ·simp only[x9,r6] at hi
   split at hi
   ·simp at hi;subst hi
    simp only[Cl] at hc
    obtain ⟨t,e,z,l,e1,e2⟩:=hc
    obtain ⟨b,hb⟩:=hm o _ e1 (R3 (fun e0=>hn (e2.2 e0)))
    exact .inr ⟨o,by simp[aP],by rw[q b hb];exact hb⟩
   ·cases hi
 | .ptr o k,vI,h,hc,hm,i,hi=>by
  simp only[f9] at h
  obtain ⟨_,b',rfl,q⟩:=h
  simp only[x9,r6] at hi
  split at hi
  ·simp at hi;subst hi
   simp only[Cl] at hc
   obtain ⟨ob,e1,e2⟩:=hc
   obtain ⟨b,hb⟩:=hm o ob e1 e2
   exact .inr ⟨o,by simp[aP],by rw[q b hb];exact hb⟩
  ·cases hi
 | .agg l,vI,h,hc,hm,i,hi=>by
  simp only[f9] at h
  obtain ⟨vs,rfl,h⟩:=h
  simp only[x9] at hi
  simp only[Cl] at hc
  simp only[aP]
  exact fQ h hc hm i hi
 | .tup l,vI,h,hc,hm,i,hi=>by
  simp only[f9] at h
  obtain ⟨vs,rfl,h⟩:=h
  simp only[x9] at hi
  simp only[Cl] at hc
  simp only[aP]
  exact fQ h hc hm i hi
 | .fn f a b,vI,h,hc,hm,i,hi=>by
  simp only[f9] at h
  obtain ⟨as,bs,rfl,h1,h2⟩:=h
  simp only[x9,cB1] at hi
  simp only[Cl] at hc
  simp only[aP,cB1]
  rcases hi with hi|hi
  ·rcases fQ h1 hc.1 hm i hi with h|⟨o,ho,e⟩
   ·exact .inl h
   ·exact .inr ⟨o,.inl ho,e⟩
  ·rcases fQ h2 hc.2 hm i hi with h|⟨o,ho,e⟩
   ·exact .inl h
   ·exact .inr ⟨o,.inr ho,e⟩
 | .ifc t v,vI,h,hc,hm,i,hi=>by
  simp only[f9] at h
  obtain ⟨v',rfl,h⟩:=h
  simp only[x9] at hi
  simp only[Cl] at hc
  simp only[aP]
  exact MY h hc hm i hi
 | .dead,vI,h,hc,hm,i,hi=>by simp only[Cl] at hc
 | .tok _,vI,h,hc,hm,i,hi=>by simp only[Cl] at hc
theorem fQ {w:VW} {H:E9} {n0:Nat}:∀ {l:List V} {vs:List Value},i6 w l vs->YF H l->(∀ o ob,j7 H o=some ob->ob.none=false->∃ b,w.μ o=some b)->∀ i ∈ B8 n0 vs,w.F i\/∃ o ∈ jV l,w.μ o=some i
 | [],vs,h,_,_,i,hi=>by simp only[i6] at h;subst h;simp[B8] at hi
 |v::r,vs,h,hc,hm,i,hi=>by
  simp only[i6] at h
  obtain ⟨u,us,rfl,h1,h2⟩:=h
  simp only[B8,cB1] at hi
  simp only[YF] at hc
  simp only[jV,cB1]
  rcases hi with hi|hi
  ·rcases MY h1 hc.1 hm i hi with h|⟨o,ho,e⟩
   ·exact .inl h
   ·exact .inr ⟨o,.inl ho,e⟩
  ·rcases fQ h2 hc.2 hm i hi with h|⟨o,ho,e⟩
   ·exact .inl h
   ·exact .inr ⟨o,.inr ho,e⟩
end
mutual
theorem NZ {w:VW} {H:E9} {n0:Nat}:∀ {v:V} {vI:Value},f9 w v vI->Cl H v->(∀ o b,w.μ o=some b->n0<=b/\∃ ob,j7 H o=some ob/\ob.none=false)->∀ o ∈ aP v,∀ b,w.μ o=some b->b ∈ x9 n0 vI
 | .sc x,vI,h,_,_,o,ho,b,hb=>by simp[aP] at ho
 | .sl s n l,vI,h,_,_,o,ho,b,hb=>by simp[aP] at ho
 | .slk s n c l,vI,h,_,_,o,ho,b,hb=>by simp[aP] at ho
 | .dp l o',vI,h,_,_,o,ho,b,hb=>by simp[aP] at ho
 | .ref o' k n c,vI,h,hc,hm,o,ho,b,hb=>by
  simp only[aP,cZ2] at ho
  subst ho
  simp only[f9] at h
  obtain ⟨_,_,b',rfl,q⟩:=h
  have:=q b hb
  subst this
  simp only[x9,r6]
  rw[aO9 (by rw[bA2];exact (hm o b' hb).1)]
  simp
 | .gr s o' n,vI,h,hc,hm,o,ho,b,hb=>by
  simp only[aP,cZ2] at ho
  subst ho
  simp only[Cl] at hc
  obtain ⟨t,e,z,l,e1,e2⟩:=hc
  obtain ⟨h1,ob,h2,h3⟩:=hm o b hb
  rw[e1] at h2
  cases h2
  have hl:l ≠ []:=fun e0=>by subst e0;cases h3
  simp only[f9] at h
  rcases h with ⟨_,⟨hn,_⟩|⟨hn,b',rfl,q⟩⟩
  ·exact absurd (e2.1 hn) hl
  ·have:=q b hb
   subst this
   simp only[x9,r6]
   rw[aO9 (by rw[bA2];exact h1)]
   simp
 | .ptr o' k,vI,h,hc,hm,o,ho,b,hb=>by
  simp only[aP,cZ2] at ho
  subst ho
  simp only[f9] at h
  obtain ⟨_,b',rfl,q⟩:=h
  have:=q b hb
  subst this
  simp only[x9,r6]
  rw[aO9 (by rw[bA2];exact (hm o b' hb).1)]
  simp
 | .agg l,vI,h,hc,hm,o,ho,b,hb=>by
  simp only[f9] at h
  obtain ⟨vs,rfl,h⟩:=h
  simp only[x9]
  simp only[Cl] at hc
  simp only[aP] at ho
  exact gB h hc hm o ho b hb
 | .tup l,vI,h,hc,hm,o,ho,b,hb=>by
  simp only[f9] at h
  obtain ⟨vs,rfl,h⟩:=h
  simp only[x9]
  simp only[Cl] at hc
  simp only[aP] at ho
  exact gB h hc hm o ho b hb
 | .fn f x y,vI,h,hc,hm,o,ho,b,hb=>by
  simp only[f9] at h
  obtain ⟨as,bs,rfl,h1,h2⟩:=h
  simp only[x9,cB1]
  simp only[Cl] at hc
  simp only[aP,cB1] at ho
  exact ho.imp (fun ho=>gB h1 hc.1 hm o ho b hb) (fun ho=>gB h2 hc.2 hm o ho b hb)
 | .ifc t v,vI,h,hc,hm,o,ho,b,hb=>by
  simp only[f9] at h
  obtain ⟨v',rfl,h⟩:=h
  simp only[x9]
  simp only[Cl] at hc
  simp only[aP] at ho
  exact NZ h hc hm o ho b hb
 | .dead,vI,h,hc,hm,o,ho,b,hb=>by simp only[Cl] at hc
 | .tok _,vI,h,hc,hm,o,ho,b,hb=>by simp only[Cl] at hc
theorem gB {w:VW} {H:E9} {n0:Nat}:∀ {l:List V} {vs:List Value},i6 w l vs->YF H l->(∀ o b,w.μ o=some b->n0<=b/\∃ ob,j7 H o=some ob/\ob.none=false)->∀ o ∈ jV l,∀ b,w.μ o=some b->b ∈ B8 n0 vs
 | [],vs,h,_,_,o,ho,b,hb=>by simp[jV] at ho
 |v::r,vs,h,hc,hm,o,ho,b,hb=>by
  simp only[i6] at h
  obtain ⟨u,us,rfl,h1,h2⟩:=h
  simp only[B8,cB1]
  simp only[YF] at hc
  simp only[jV,cB1] at ho
  exact ho.imp (fun ho=>NZ h1 hc.1 hm o ho b hb) (fun ho=>gB h2 hc.2 hm o ho b hb)
end
theorem LI {E:G3} {h:o7} {a:Addr}:p9 E h a=match a.spot with|none=>E.old a.block a.off|some 0=>(i7 h a.block).bind fun b=>E1 b.cells a.off|some (_+1)=>none:=rfl
def hO (E:G3):Prop:=∀ b o v,E.old b o=some v->x9 0 v= []\/∃ k x y,v= .complex k x y
structure GI (E:G3) (n0:Nat) (h0 hf:o7) (F0 F:Nat->Prop) (ord:List Nat) (bs:List A0):Prop where
 old:hO E
 low:∀ b,b<n0->i7 hf b=i7 h0 b
 f0:∀ b,F0 b->b<n0/\∃ blk,i7 h0 b=some blk/\∀ n,∀ i ∈ B8 n blk.cells,F0 i
 ff:∀ b,F b->b<n0->F0 b
 fc:∀ b,F b->∃ blk,i7 hf b=some blk/\∀ n,∀ i ∈ B8 n blk.cells,F i
 nd:ord.Nodup
 oo:∀ i ∈ ord,n0<=i/\∃ b,i7 hf i=some b/\∀ j ∈ B8 n0 b.cells,j ∈ ord
 pk:bW n0 hf ord ord=some bs
section
variable {E:G3} {n0:Nat} {h0 hf:o7} {F0 F:Nat->Prop} {ord:List Nat} {bs:List A0} {μ:Nat->Option Nat} {nx:Nat}
def F2 (n0:Nat) (F:Nat->Prop) (ord:List Nat) (b:Nat):Prop:=(b<n0/\F b)\/∃ i ∈ ord,F i/\b=C9 n0 ord i
def mu2 (n0:Nat) (ord:List Nat) (μ:Nat->Option Nat) (o:Nat):Option Nat:=(μ o).bind fun b=>if p5 b ord then some (C9 n0 ord b) else none
theorem aF {i:Nat} (h:i<n0):C9 n0 ord i=i:=by unfold C9;rw[aO9 (by rw[bA6];exact h)]
theorem CD {i:Nat} (h:n0<=i):C9 n0 ord i=n0+L9 i ord:=by unfold C9;rw[aQ4 (by rw[bA6];omega)]
theorem GI.inj (g:GI E n0 h0 hf F0 F ord bs) {i j:Nat} (hi:i ∈ ord) (hj:j ∈ ord) (e:C9 n0 ord i=C9 n0 ord j):i=j:=by
 rw[CD (g.oo i hi).1,CD (g.oo j hj).1] at e
 obtain ⟨_,k1⟩:=dJ ord i hi
 obtain ⟨_,k2⟩:=dJ ord j hj
 rw[show L9 i ord=L9 j ord by omega] at k1
 rw[k1] at k2
 exact Option.some.inj k2
theorem GI.get (g:GI E n0 h0 hf F0 F ord bs) {i:Nat} (hi:i ∈ ord):∃ b,i7 hf i=some b/\i7 (B0 h0 n0 bs) (C9 n0 ord i)=some {b with cells:=U9 (C9 n0 ord) b.cells}/\C9 n0 ord i<n0+bs.length/\n0<=C9 n0 ord i:=by
 obtain ⟨k1,k2⟩:=dJ ord i hi
 obtain ⟨p1,p2⟩:=lK ord g.pk
 obtain ⟨b,b1,b2⟩:=p2 _ i k2
 rw[CD (g.oo i hi).1]
 refine ⟨b,b1,?_,by omega,by omega⟩
 rw[B3,aO9 (by omega),show n0+L9 i ord - n0=L9 i ord by omega]
 exact b2
theorem GI.lowget (g:GI E n0 h0 hf F0 F ord bs) {b:Nat} (h:b<n0):i7 (B0 h0 n0 bs) b=i7 h0 b:=by
 rw[B3,aQ4 (by omega)]
abbrev gw (E:G3) (hf:o7) (F:Nat->Prop) (μ:Nat->Option Nat) (nx:Nat):VW:=⟨p9 E hf,F,μ,nx⟩
theorem VA {f:Nat->Nat} {v:Value} (h:x9 0 v= []):U0 f v=v:=lQ (n0:=0) (fun i hi=>by omega) v h
def IdO (n0:Nat) (ord:List Nat) (v:Value):Prop:=(∀ i ∈ x9 n0 v,i ∈ ord)\/∃ k x y,v= .complex k x y
theorem GI.cell (g:GI E n0 h0 hf F0 F ord bs) {a:Addr} {v:Value} (hi:a.spot=none\/F a.block) (ha:a.spot=none\/a.block<n0\/a.block ∈ ord) (h:p9 E hf a=some v):
  p9 E (B0 h0 n0 bs) ⟨if a.spot.isSome then C9 n0 ord a.block else a.block,a.off,a.spot⟩=some (U0 (C9 n0 ord) v)/\IdO n0 ord v:=by
 obtain ⟨b,o,sp⟩:=a
 cases sp with
 |none=>
  simp only[p9] at h ⊢
  rcases g.old b o v h with h1|⟨k,x,y,rfl⟩
  ·rw[VA h1]
   exact ⟨h,.inl fun i hi=>by rw[tT v h1 n0] at hi;cases hi⟩
  ·exact ⟨h,.inr ⟨k,x,y,rfl⟩⟩
 |some k=>
  have hF:F b:=by simpa using hi
  obtain rfl:k=0:=by
   cases k with
   |zero=>rfl
   |succ k=>simp[p9] at h
  simp only[p9,dL8,if_true] at h ⊢
  have ha:b<n0\/b ∈ ord:=by simpa using ha
  rcases ha with hb|hb
  ·rw[aF hb,g.lowget hb]
   rw[g.low b hb] at h
   obtain ⟨_,blk,e1,e2⟩:=g.f0 b (g.ff b hF hb)
   rw[e1] at h ⊢
   simp only[aI2,y7] at h ⊢
   have hv:x9 n0 v= []:=by
    cases h8:x9 n0 v with
    |nil=>rfl
    |cons i r=>
     have h1:i ∈ x9 n0 v:=by rw[h8];simp
     have h2:=(g.f0 i (e2 n0 i (SQ _ _ _ h i h1))).1
     have h3:=tU v i h1
     omega
   rw[lQ (fun i hi=>aF hi) v hv]
   exact ⟨h,.inl fun i hi=>by rw[hv] at hi;cases hi⟩
  ·obtain ⟨blk,e1,e2,_⟩:=g.get hb
   rw[e2]
   rw[e1] at h
   simp only[aI2,y7] at h ⊢
   refine ⟨by rw[bQ3,h];rfl,.inl fun i hi=>?_⟩
   obtain ⟨_,blk',e1',e2'⟩:=g.oo b hb
   rw[e1] at e1'
   cases e1'
   exact e2' i (SQ _ _ _ h i hi)
abbrev NY (n0:Nat) (ord:List Nat) (a:Addr):Addr:=⟨if a.spot.isSome then C9 n0 ord a.block else a.block,a.off,a.spot⟩
theorem mF (a:Addr):J5 (C9 n0 ord) (some a)=some (NY n0 ord a):=by
 obtain ⟨b,o,sp⟩:=a
 cases sp<;>rfl
theorem bQ1 (a:Addr) (k:Nat):NY n0 ord (C6 a k)=C6 (NY n0 ord a) k:=rfl
theorem bK3 {w:VW} {a:Addr} (h:w.inF a):a.spot=none\/w.F a.block:=by
 unfold VW.inF at h
 split at h
 ·rename_i e;exact .inl e
 ·exact .inr h
theorem GI.inF2 (g:GI E n0 h0 hf F0 F ord bs) {a:Addr} (h:(gw E hf F μ nx).inF a) (ha:a.spot=none\/a.block<n0\/a.block ∈ ord):(gw E (B0 h0 n0 bs) (F2 n0 F ord) (mu2 n0 ord μ) nx).inF (NY n0 ord a):=by
 obtain ⟨b,o,sp⟩:=a
 cases sp with
 |none=>trivial
 |some k=>
  have hF:F b:=h
  have ha:b<n0\/b ∈ ord:=by simpa using ha
  show F2 n0 F ord (C9 n0 ord b)
  rcases ha with hb|hb
  ·rw[aF hb];exact .inl ⟨hb,hF⟩
  ·exact .inr ⟨b,hb,hF,rfl⟩
theorem rB {a:Addr} {v:Value} (hv:(∃ n c,v= .slice (some a) n c)\/v= .pointer (some a)) (h:IdO n0 ord v):a.spot=none\/a.block<n0\/a.block ∈ ord:=by
 obtain ⟨b,o,sp⟩:=a
 cases sp with
 |none=>exact .inl rfl
 |some k=>
  right
  rcases cL3 b n0 with hb|hb
  ·exact .inl hb
  ·right
   rcases hv with ⟨n,c,rfl⟩|rfl
   ·rcases h with h|⟨_,_,_,e⟩
    ·exact h b (by simp only[x9,r6];rw[aO9 (by rw[bA2];exact hb)];simp)
    ·cases e
   ·rcases h with h|⟨_,_,_,e⟩
    ·exact h b (by simp only[x9,r6];rw[aO9 (by rw[bA2];exact hb)];simp)
    ·cases e
mutual
theorem GI.rD (g:GI E n0 h0 hf F0 F ord bs):∀ {d:D} {v:Value},A1 (gw E hf F μ nx) d v->IdO n0 ord v->A1 (gw E (B0 h0 n0 bs) (F2 n0 F ord) (mu2 n0 ord μ) nx) d (U0 (C9 n0 ord) v)
 | .sc x,v,h,_=>by
  simp only[A1] at h ⊢
  obtain ⟨rfl,h⟩:=h
  exact ⟨lQ (fun i hi=>aF hi) v (V0 n0 v h),h⟩
 | .sl s n l,v,h,hi=>by
  simp only[A1] at h ⊢
  rcases h with ⟨a,c,rfl,k,kc,kA,ks⟩|⟨h1,h2,h3,h4⟩
  ·left
   have ha:=rB (.inl ⟨n,c,rfl⟩) hi
   refine ⟨NY n0 ord a,c,?_,g.inF2 k ha,kc,g.rA k ha kA,ks⟩
   simp only[U0,mF]
  ·right
   refine ⟨h1,h2,h3,?_⟩
   rcases h4 with rfl|⟨hs,a,b,e,rfl⟩
   ·exact .inl rfl
   ·exact .inr ⟨hs,a,b,e,rfl⟩
theorem GI.rA (g:GI E n0 h0 hf F0 F ord bs):∀ {l:List D} {a:Addr},(gw E hf F μ nx).inF a->(a.spot=none\/a.block<n0\/a.block ∈ ord)->A6 (gw E hf F μ nx) l a->A6 (gw E (B0 h0 n0 bs) (F2 n0 F ord) (mu2 n0 ord μ) nx) l (NY n0 ord a)
 | [],a,_,_,_=>by simp only[A6]
 |d::r,a,i,ha,h=>by
  simp only[A6] at h ⊢
  obtain ⟨⟨v,h1,h2⟩,h3⟩:=h
  obtain ⟨c1,c2⟩:=g.cell (bK3 i) ha h1
  exact ⟨⟨_,c1,g.rD h2 c2⟩,g.rA (a:=C6 a 1) (mW i) ha h3⟩
end
theorem GI.rDL (g:GI E n0 h0 hf F0 F ord bs):∀ {l:List D} {vs:List Value},m6 (gw E hf F μ nx) l vs->(∀ i ∈ B8 n0 vs,i ∈ ord)->m6 (gw E (B0 h0 n0 bs) (F2 n0 F ord) (mu2 n0 ord μ) nx) l (U9 (C9 n0 ord) vs)
 | [],vs,h,_=>by simp only[m6] at h ⊢;subst h;rfl
 |d::r,vs,h,hi=>by
  simp only[m6] at h ⊢
  obtain ⟨v,vs',rfl,h1,h2⟩:=h
  simp only[B8,cB1] at hi
  exact ⟨_,_,rfl,g.rD h1 (.inl fun i h=>hi i (.inl h)),g.rDL h2 fun i h=>hi i (.inr h)⟩
theorem U6 {o b:Nat} (h:mu2 n0 ord μ o=some b):∃ i,μ o=some i/\i ∈ ord/\b=C9 n0 ord i:=by
 simp only[mu2,aG3] at h
 obtain ⟨i,h1,h2⟩:=h
 split at h2
 ·rename_i he;cases h2;exact ⟨i,h1,(m7 _ _).1 he,rfl⟩
 ·cases h2
mutual
theorem GI.rV (g:GI E n0 h0 hf F0 F ord bs):∀ {d:V} {v:Value},f9 (gw E hf F μ nx) d v->(∀ i ∈ x9 n0 v,i ∈ ord)->f9 (gw E (B0 h0 n0 bs) (F2 n0 F ord) (mu2 n0 ord μ) nx) d (U0 (C9 n0 ord) v)
 | .sc x,v,h,_=>by
  simp only[f9] at h ⊢
  obtain ⟨rfl,h⟩:=h
  exact ⟨lQ (fun i hi=>aF hi) v (V0 n0 v h),h⟩
 | .sl s n l,v,h,hi=>by simp only[f9] at h ⊢;exact g.rD h (.inl hi)
 | .slk s n c l,v,h,hi=>by
  simp only[f9] at h ⊢
  refine ⟨h.1,h.2.1,?_⟩
  rcases h.2.2 with ⟨a,rfl,k,kA⟩|⟨h1,h2,h3,h4,rfl⟩
  ·left
   have ha:=rB (.inl ⟨n,c,rfl⟩) (.inl hi)
   exact ⟨NY n0 ord a,by simp only[U0,mF],g.inF2 k ha,g.rA k ha kA⟩
  ·exact .inr ⟨h1,h2,h3,h4,rfl⟩
 | .dp l o,v,h,hi=>by
  simp only[f9] at h ⊢
  obtain ⟨a,rfl,k,kA⟩:=h
  have ha:a.spot=none\/a.block<n0\/a.block ∈ ord:=rB (a:=C6 a o) (.inr rfl) (.inl hi)
  exact ⟨NY n0 ord a,by simp only[U0,mF,bQ1],g.inF2 k ha,g.rA k ha kA⟩
 | .ref o k n c,v,h,hi=>by
  simp only[f9] at h ⊢
  obtain ⟨h1,h2,b',rfl,q⟩:=h
  refine ⟨h1,h2,C9 n0 ord b',by simp only[U0,J5],fun b hb=>?_⟩
  obtain ⟨i,e1,e2,rfl⟩:=U6 hb
  rw[q i e1]
 | .gr s o n,v,h,hi=>by
  simp only[f9] at h ⊢
  refine ⟨h.1,?_⟩
  rcases h.2 with ⟨h1,rfl|⟨h2,a,c,rfl,k⟩⟩|⟨h1,b',rfl,q⟩
  ·exact .inl ⟨h1,.inl rfl⟩
  ·have ha:=rB (.inl ⟨0,c,rfl⟩) (.inl hi)
   exact .inl ⟨h1,.inr ⟨h2,NY n0 ord a,c,by simp only[U0,mF],g.inF2 k ha⟩⟩
  ·refine .inr ⟨h1,C9 n0 ord b',by simp only[U0,J5],fun b hb=>?_⟩
   obtain ⟨i,e1,e2,rfl⟩:=U6 hb
   rw[q i e1]
 | .ptr o k,v,h,hi=>by
  simp only[f9] at h ⊢
  obtain ⟨h1,b',rfl,q⟩:=h
  refine ⟨h1,C9 n0 ord b',by simp only[U0,J5],fun b hb=>?_⟩
  obtain ⟨i,e1,e2,rfl⟩:=U6 hb
  rw[q i e1]
 | .agg l,v,h,hi=>by
  simp only[f9] at h ⊢
  obtain ⟨vs,rfl,h⟩:=h
  simp only[x9] at hi
  exact ⟨_,by simp only[U0],g.rVL h hi⟩
 | .tup l,v,h,hi=>by
  simp only[f9] at h ⊢
  obtain ⟨vs,rfl,h⟩:=h
  simp only[x9] at hi
  exact ⟨_,by simp only[U0],g.rVL h hi⟩
 | .fn f a b,v,h,hi=>by
  simp only[f9] at h ⊢
  obtain ⟨as,bs',rfl,h1,h2⟩:=h
  simp only[x9,cB1] at hi
  exact ⟨_,_,by simp only[U0],g.rVL h1 fun i h=>hi i (.inl h),g.rVL h2 fun i h=>hi i (.inr h)⟩
 | .ifc t u,v,h,hi=>by
  simp only[f9] at h ⊢
  obtain ⟨v',rfl,h⟩:=h
  simp only[x9] at hi
  exact ⟨_,by simp only[U0],g.rV h hi⟩
 | .dead,v,h,hi=>by simp only[f9]
 | .tok o,v,h,hi=>by
  simp only[f9] at h ⊢
  obtain ⟨h1,b',rfl,q⟩:=h
  refine ⟨h1,C9 n0 ord b',by simp only[U0],fun b hb=>?_⟩
  obtain ⟨i,e1,e2,rfl⟩:=U6 hb
  rw[q i e1]
theorem GI.rVL (g:GI E n0 h0 hf F0 F ord bs):∀ {l:List V} {vs:List Value},i6 (gw E hf F μ nx) l vs->(∀ i ∈ B8 n0 vs,i ∈ ord)->i6 (gw E (B0 h0 n0 bs) (F2 n0 F ord) (mu2 n0 ord μ) nx) l (U9 (C9 n0 ord) vs)
 | [],vs,h,_=>by simp only[i6] at h ⊢;subst h;rfl
 |d::r,vs,h,hi=>by
  simp only[i6] at h ⊢
  obtain ⟨v,vs',rfl,h1,h2⟩:=h
  simp only[B8,cB1] at hi
  exact ⟨_,_,rfl,g.rV h1 fun i h=>hi i (.inl h),g.rVL h2 fun i h=>hi i (.inr h)⟩
end
theorem dD9 {C:C8} {st:n9} {sf:St} {μ:Nat->Option Nat} {F F0:Nat->Prop} {h0:o7} {v:V} {vI:Value} (h:SR C st sf μ F) (hU:∀ b,b<C.n0->C.U b) (hh:C.h0=h0) (g1:st.ro=0) (hp:sf.prot=C.n0) (g2:hO C.E)
  (h9:∀ b,F0 b->b<C.n0/\∃ blk,i7 h0 b=some blk/\∀ n,∀ i ∈ B8 n blk.cells,F0 i) (hl:∀ b,F b->F0 b\/C.n0<=b) (hq:∀ b,F0 b->F b) (g3:∀ b blk,i7 h0 b=some blk->b<C.n0)
  (hv:f9 (x8 C st sf μ F) v vI) (hR:nT st.own v):
  ∃ v2 bs μ2 G,gc C.n0 sf.heap vI=some (v2,bs)/\SR C st ⟨B0 h0 C.n0 bs,C.n0+bs.length,C.n0⟩ μ2 G/\f9 (x8 C st ⟨B0 h0 C.n0 bs,C.n0+bs.length,C.n0⟩ μ2 G) v v2/\(∀ b,G b->F0 b\/C.n0<=b)/\(∀ b,F0 b->G b)/\(x9 C.n0 vI= []->bs= []):=by
 have hc:∀ o b,μ o=some b->C.n0<=b/\∃ ob,j7 st.own o=some ob/\ob.none=false:=fun o b e=>⟨by rw[<- hp];exact h.pb o b e (by rw[g1];exact bA5 _),(h.dom o b e).2.2⟩
 have hr:∀ o ob,j7 st.own o=some ob->ob.none=false->∃ b,μ o=some b:=fun o ob e hn=>by
  obtain ⟨b,_,m1,_⟩:=h.obj o ob e hn
  exact ⟨b,m1⟩
 have g4:∀ b,(F b\/∃ o,μ o=some b)->C.n0<=b->∃ blk,i7 sf.heap b=some blk/\∀ i ∈ B8 C.n0 blk.cells,F i\/∃ o,μ o=some i:=by
  rintro b (hb|⟨o,e⟩) _
  ·obtain ⟨blk,c1,c2⟩:=h.cl b hb
   exact ⟨blk,c1,fun i hi=> .inl (c2 _ i hi)⟩
  ·obtain ⟨_,ob,e1,e2⟩:=hc o b e
   obtain ⟨b',blk,m1,m2,m3⟩:=h.obj o ob e1 e2
   rw[e] at m1;cases m1
   refine ⟨blk,m2,fun i hi=>?_⟩
   cases ob with
   |box t e' l=>
    rcases fQ m3.2.2.2 (hR.box o t e' l e1) hr i hi with hh|⟨o',_,e'⟩
    ·exact .inl hh
    ·exact .inr ⟨o',e'⟩
   |row t e' g' z l=>exact .inl (AI m3.2.2.2 (h.own o _ e1).2 i hi)
   |gro t e' z l=>exact .inl (AI m3.2.2.2 (h.own o _ e1).2 i hi)
 have g5:∀ i ∈ x9 C.n0 vI,C.n0<=i/\(F i\/∃ o,μ o=some i):=fun i hi=>by
  refine ⟨tU vI i hi,?_⟩
  rcases MY hv hR.cl hr i hi with hh|⟨o,_,e⟩
  ·exact .inl hh
  ·exact .inr ⟨o,e⟩
 have g6:∃ ord bs,ord.Nodup/\(∀ i ∈ ord,C.n0<=i/\∃ b,i7 sf.heap i=some b/\∀ j ∈ B8 C.n0 b.cells,j ∈ ord)/\bW C.n0 sf.heap ord ord=some bs/\(∀ i ∈ x9 C.n0 vI,i ∈ ord)/\gc C.n0 sf.heap vI=some (U0 (C9 C.n0 ord) vI,bs)/\(x9 C.n0 vI= []->bs= []):=by
  cases h8:x9 C.n0 vI with
  |nil=>
   refine ⟨[],[],List.nodup_nil,(fun i hi=>by cases hi),rfl,(fun i hi=>by cases hi),?_,fun _=>rfl⟩
   unfold gc
   rw[h8,lQ (fun i hi=>aF hi) vI h8]
  |cons x r=>
   obtain ⟨d,hd⟩:=NX g4 (x9 C.n0 vI) g5
   obtain ⟨f,hf⟩:=wQ hd
   obtain ⟨d1,_,d3,d4⟩:=jF C.n0 sf.heap f _ [] d hf (fun i hi=>tU vI i hi) List.nodup_nil
   have d5:∀ i ∈ d.reverse,C.n0<=i/\∃ b,i7 sf.heap i=some b/\∀ j ∈ B8 C.n0 b.cells,j ∈ d.reverse:=fun i hi=>by
    rcases d4 i (by simpa using hi) with h|⟨h5,b,h6,h7⟩
    ·cases h
    ·exact ⟨h5,b,h6,fun j hj=>by simpa using h7 j hj⟩
   obtain ⟨bs,ht⟩:=rM (n0:=C.n0) (ord:=d.reverse) d.reverse (fun i hi=>by obtain ⟨_,b,hb,_⟩:=d5 i hi;exact ⟨b,hb⟩)
   refine ⟨d.reverse,bs,by unfold List.Nodup at d1 ⊢;rw[List.pairwise_reverse];exact d1.imp Ne.symm,d5,ht,fun i hi=>by simpa using d3 i (by rw[h8];exact hi),?_,fun e=>by cases e⟩
   unfold gc
   rw[h8]
   rw[h8] at hd
   simp only[hd,aI2,ht,aX8]
 obtain ⟨ord,bs,o1,o2,o3,o4,o5,o6⟩:=g6
 have g:GI C.E C.n0 h0 sf.heap F0 F ord bs:=⟨g2,fun b hb=>by have:=(h.un b (hU b hb)).2;rw[hh] at this;exact this,h9,fun b hb hg=>(hl b hb).resolve_right (by omega),h.cl,o1,o2,o3⟩
 have g7:∀ o,VR st.own v o->∀ b,μ o=some b->b ∈ ord:=by
  intro o g8
  induction g8 with
  |root o ho=>exact fun b hb=>o4 b (NZ hv hR.cl hc o ho b hb)
  |box o o1' t e l _ hw ho ih=>
   intro b hb
   obtain ⟨b1,blk,m1,m2,m3⟩:=h.obj o1' _ hw rfl
   have g9:=ih b1 m1
   obtain ⟨_,blk',e1,e2⟩:=o2 b1 g9
   rw[m2] at e1
   cases e1
   exact e2 b (gB m3.2.2.2 (hR.box o1' t e l hw) hc o ho b hb)
 have hx:∀ o b,μ o=some b->b ∈ ord:=fun o b e=>by
  obtain ⟨_,ob,e1,e2⟩:=hc o b e
  exact g7 o (hR.all o ob e1 e2) b e
 have ga:∀ o b,μ o=some b->mu2 C.n0 ord μ o=some (C9 C.n0 ord b):=fun o b e=>by
  simp only[mu2,e,aI2]
  rw[aO9 ((m7 _ _).2 (hx o b e))]
 have hy:∀ b,b ∈ ord->(F2 C.n0 F ord (C9 C.n0 ord b)↔F b):=fun b hb=>by
  constructor
  ·rintro (⟨h1,_⟩|⟨i,hi,h1,h2⟩)
   ·have:=(g.get hb);obtain ⟨_,_,_,_,h3⟩:=this;omega
   ·rw[g.inj hb hi h2];exact h1
  ·exact fun hf=> .inr ⟨b,hb,hf,rfl⟩
 refine ⟨U0 (C9 C.n0 ord) vI,bs,mu2 C.n0 ord μ,F2 C.n0 F ord,o5,⟨?_,?_,?_,?_,?_,?_,?_,?_,?_,h.own,?_,?_,?_⟩,g.rV hv o4,?_,?_,o6⟩
 ·intro o ob e hn
  obtain ⟨b,blk,m1,m2,m3⟩:=h.obj o ob e hn
  have hb:=hx o b m1
  obtain ⟨blk',e1,e2,_⟩:=g.get hb
  rw[m2] at e1
  cases e1
  refine ⟨_,_,ga o b m1,e2,?_⟩
  obtain ⟨_,blk2,e1',e2'⟩:=o2 b hb
  rw[m2] at e1'
  cases e1'
  cases ob with
  |box t e' l=>exact ⟨m3.1,m3.2.1,m3.2.2.1,g.rVL m3.2.2.2 e2'⟩
  |row t e' g' z l=>exact ⟨m3.1,m3.2.1,m3.2.2.1,g.rDL m3.2.2.2 e2'⟩
  |gro t e' z l=>exact ⟨m3.1,m3.2.1,m3.2.2.1,g.rDL m3.2.2.2 e2'⟩
 ·intro o ob b e e2 hz
  obtain ⟨i,e3,e4,rfl⟩:=U6 e2
  obtain ⟨_,_,_,_,h4⟩:=g.get e4
  refine ⟨fun hf=>(h.wr o ob i e e3 hz).1 ((hy i e4).1 hf),fun _=>⟨h4,fun hu=>by have:=(h.un _ hu).1;omega⟩⟩
 ·intro o ob b e e2 hz
  obtain ⟨i,e3,e4,rfl⟩:=U6 e2
  exact (hy i e4).2 (h.fz o ob i e e3 hz)
 ·intro o o' b e e'
  obtain ⟨i,e3,e4,rfl⟩:=U6 e
  obtain ⟨j,e5,e6,e7⟩:=U6 e'
  rw[<- g.inj e4 e6 e7] at e5
  exact h.inj o o' i e3 e5
 ·intro o b e
  obtain ⟨i,e3,e4,rfl⟩:=U6 e
  obtain ⟨_,_,_,h3,_⟩:=g.get e4
  exact ⟨h3,(h.dom o i e3).2⟩
 ·rintro b (⟨h1,h2⟩|⟨i,hi,h1,rfl⟩)
  ·obtain ⟨_,blk,e1,_⟩:=h9 b (g.ff b h2 h1)
   exact ⟨by simp only;omega,blk,by simp only;rw[g.lowget h1];exact e1⟩
  ·obtain ⟨_,_,e2,h3,_⟩:=g.get hi
   exact ⟨h3,_,e2⟩
 ·rintro b (⟨h1,h2⟩|⟨i,hi,h1,rfl⟩)
  ·obtain ⟨_,blk,e1,e2⟩:=h9 b (g.ff b h2 h1)
   refine ⟨blk,by simp only;rw[g.lowget h1];exact e1,fun n j hj=> .inl ⟨(h9 j (e2 n j hj)).1,hq j (e2 n j hj)⟩⟩
  ·obtain ⟨blk,e1,e2,_⟩:=g.get hi
   obtain ⟨blk',c1,c2⟩:=h.cl i h1
   rw[e1] at c1
   cases c1
   refine ⟨_,e2,fun n j hj=>?_⟩
   rcases fP _ n _ j hj with ⟨k,hk,rfl⟩|⟨_,hm⟩
   ·have g0:=c2 0 k hk
    rcases cL3 k C.n0 with hg|gb
    ·rw[aF hg];exact .inl ⟨hg,g0⟩
    ·have gd:k ∈ B8 C.n0 blk.cells:=mU _ k hk gb
     obtain ⟨_,blk2,d1,d2⟩:=o2 i hi
     rw[e1] at d1
     cases d1
     exact .inr ⟨k,d2 k gd,g0,rfl⟩
   ·have:=(h.lt _ (c2 sf.next _ (hm sf.next))).1
    omega
 ·intro b hb
  obtain ⟨u1,u2⟩:=h.un b hb
  exact ⟨u1,by simp only;rw[g.lowget u1,hh]⟩
 ·simp only;omega
 ·intro b blk hb
  simp only at hb ⊢
  rw[B3] at hb
  split at hb
  ·omega
  ·have:=g3 b blk hb;omega
 ·simp only;omega
 ·intro o b e _
  obtain ⟨i,e3,e4,rfl⟩:=U6 e
  obtain ⟨_,_,_,_,h4⟩:=g.get e4
  exact h4
 ·rintro b (⟨h1,h2⟩|⟨i,hi,h1,rfl⟩)
  ·exact hl b h2
  ·obtain ⟨_,_,_,_,h4⟩:=g.get hi
   exact .inr h4
 ·exact fun b hb=> .inl ⟨(h9 b hb).1,hq b hb⟩
end
mutual
def A4:V->Bool
 | .sc _=>true
 | .agg l=>nZ l
 | .tup l=>nZ l
 | .ifc _ v=>A4 v
 |_=>false
def nZ:List V->Bool
 | []=>true
 |v::r=>A4 v && nZ r
end
mutual
theorem qS {w:VW}:∀ {v:V} {vI:Value},f9 w v vI->A4 v=true->(∀ n,x9 n vI= [])/\∀ w',f9 w' v vI
 | .sc x,vI,h,_=>by
  have hx:=h.ok
  have:=h.scv
  subst this
  exact ⟨fun n=>V0 n vI hx,fun w'=> .mksc hx⟩
 | .agg l,vI,h,hf=>by
  simp only[f9] at h
  obtain ⟨vs,rfl,h⟩:=h
  obtain ⟨a1,a2⟩:=zQ h (by simpa only[A4] using hf)
  exact ⟨fun n=>by simp only[x9];exact a1 n,fun w'=>by simp only[f9];exact ⟨vs,rfl,a2 w'⟩⟩
 | .tup l,vI,h,hf=>by
  simp only[f9] at h
  obtain ⟨vs,rfl,h⟩:=h
  obtain ⟨a1,a2⟩:=zQ h (by simpa only[A4] using hf)
  exact ⟨fun n=>by simp only[x9];exact a1 n,fun w'=>by simp only[f9];exact ⟨vs,rfl,a2 w'⟩⟩
 | .sl _ _ _,vI,h,hf=>by simp[A4] at hf
 | .slk _ _ _ _,vI,h,hf=>by simp[A4] at hf
 | .dp _ _,vI,h,hf=>by simp[A4] at hf
 | .ref _ _ _ _,vI,h,hf=>by simp[A4] at hf
 | .gr _ _ _,vI,h,hf=>by simp[A4] at hf
 | .ptr _ _,vI,h,hf=>by simp[A4] at hf
 | .fn _ _ _,vI,h,hf=>by simp[A4] at hf
 | .ifc t v,vI,h,hf=>by
  simp only[f9] at h
  obtain ⟨u,rfl,h⟩:=h
  obtain ⟨a1,a2⟩:=qS h (by simpa only[A4] using hf)
  exact ⟨fun n=>by simp only[x9];exact a1 n,fun w'=>by simp only[f9];exact ⟨u,rfl,a2 w'⟩⟩
 | .dead,vI,h,hf=>by simp[A4] at hf
 | .tok _,vI,h,hf=>by simp[A4] at hf
theorem zQ {w:VW}:∀ {l:List V} {vs:List Value},i6 w l vs->nZ l=true->(∀ n,B8 n vs= [])/\∀ w',i6 w' l vs
 | [],vs,h,_=>by simp only[i6] at h;subst h;exact ⟨fun n=>rfl,fun w'=>by simp only[i6]⟩
 |v::r,vs,h,hf=>by
  simp only[nZ,aO3] at hf
  simp only[i6] at h
  obtain ⟨u,us,rfl,h1,h2⟩:=h
  obtain ⟨a1,a2⟩:=qS h1 hf.1
  obtain ⟨b1,b2⟩:=zQ h2 hf.2
  exact ⟨fun n=>by simp[B8,a1 n,b1 n],fun w'=>by simp only[i6];exact ⟨u,us,rfl,a2 w',b2 w'⟩⟩
end
abbrev YG (E:G3) (h:o7) (F:Nat->Prop):VW:=⟨p9 E h,F,fun _=>none,0⟩
def ClF (h:o7) (n:Nat) (F:Nat->Prop):Prop:=∀ b,F b->b<n/\∃ blk,i7 h b=some blk/\∀ n,∀ i ∈ B8 n blk.cells,F i
def m0 (E:G3) (f:FuncId) (xs:List V) (v:V) (st1:n9):Prop:=
 ∀ (s:St) (F:Nat->Prop) (xsI:List Value),ClF s.heap s.next F->(∀ b blk,i7 s.heap b=some blk->b<s.next)->i6 (YG E s.heap F) xs xsI->
  ∃ vI bs μ G,E.pcall f xsI s=some (vI,bs)/\SR (C1 E s (YG E s.heap F)) st1 ⟨B0 s.heap s.next bs,s.next+bs.length,s.next⟩ μ G/\f9 (x8 (C1 E s (YG E s.heap F)) st1 ⟨B0 s.heap s.next bs,s.next+bs.length,s.next⟩ μ G) v vI/\(∀ b,G b->F b\/s.next<=b)/\(∀ b,F b->G b)/\(A4 v=true->bs= [])
section
variable {C:C8} {st:n9} {s:St} {μ:Nat->Option Nat} {F:Nat->Prop}
theorem SR.env (h:SR C st s μ F) {C':C8} (hE:p9 C'.E=p9 C.E) (hn:C'.n0=C.n0) (hh:C'.h0=C.h0) (hU:C'.U=C.U):SR C' st s μ F:=by
 have hw:x8 C' st s μ F=x8 C st s μ F:=by
  show (⟨p9 C'.E s.heap,F,μ,st.next⟩:VW)=⟨p9 C.E s.heap,F,μ,st.next⟩
  rw[hE]
 refine ⟨fun o ob e h9=>?_,fun o ob b e1 e2 e3=>?_,h.fz,h.inj,h.dom,h.lt,h.cl,fun b hb=>?_,by rw[hn];exact h.n0,h.own,h.hb,h.pr,h.pb⟩
 ·rw[hw];exact h.obj o ob e h9
 ·rw[hU];exact h.wr o ob b e1 e2 e3
 ·rw[hU] at hb;rw[hn,hh];exact h.un b hb
theorem SR.start {E:G3} {w0:VW} (hF:ClF s.heap s.next F) (hb:∀ b blk,i7 s.heap b=some blk->b<s.next):SR (C1 E s w0) ⟨[],0,0⟩ ⟨s.heap,s.next,s.next⟩ (fun _=>none) F:=
 ⟨(fun o ob e=>by cases e),(fun o ob b e=>by cases e),(fun o ob b e=>by cases e),(fun o o' b e=>by cases e),(fun o b e=>by cases e),(fun b h=>⟨(hF b h).1,by obtain ⟨blk,h1,_⟩:=(hF b h).2;exact ⟨blk,h1⟩⟩),(fun b h=>(hF b h).2),
  (fun b h=>⟨h,rfl⟩),aQ5 _,(fun o ob e=>by cases e),hb,aQ5 _,(fun o b e=>by cases e)⟩
def P4:Nat->List V->D0
 |_,[]=> []
 |n,v::r=>(n,v)::P4 (n+1) r
theorem bR {w:VW}:∀ {xs:List V} {vs:List Value} (n:Nat),i6 w xs vs->FR w (P4 n xs) (cX n vs)
 | [],vs,n,h=>fun t v e=>by cases e
 |x::r,vs,n,h=>by
  simp only[i6] at h
  obtain ⟨v,vs',rfl,h1,h2⟩:=h
  intro t u e
  simp only[P4] at e
  rw[n5] at e
  simp only[cX]
  rw[L1]
  split at e
  ·rename_i ht
   cases e
   exact ⟨v,by rw[aO9 ht],h1⟩
  ·rename_i ht
   obtain ⟨vI,a,b⟩:=bR (n+1) h2 t u e
   exact ⟨vI,by rw[aQ4 ht];exact a,b⟩
def O6 (C:C8) (fr:D0) (st:n9):List (Nat × Option (Option Nat))->Option (List V)
 | []=>some []
 |(t,none)::r=>(j7 fr t).bind fun v=>(O6 C fr st r).map (v::·)
 |(t,some g)::r=>(j7 fr t).bind fun p=>(dU C.E.old st.own g p).bind fun v=>(O6 C fr st r).map (v::·)
def R7:List V->V
 | [v]=>v
 |l=> .tup l
theorem uW (h:SR C st s μ F) {fr:D0} {frI:Fr} (hf:FR (x8 C st s μ F) fr frI):∀ {res:List (Nat × Option (Option Nat))} {vs:List V},O6 C fr st res=some vs->∃ vsI,bO C.E frI s res=some vsI/\i6 (x8 C st s μ F) vs vsI
 | [],vs,e=>by simp only[O6,aJ7] at e;subst e;exact ⟨[],rfl,by simp only[i6]⟩
 |(t,none)::r,vs,e=>by
  simp only[O6,aG3,aG4] at e
  obtain ⟨v,h1,vs',h2,rfl⟩:=e
  obtain ⟨vI,a1,a2⟩:=hf t v h1
  obtain ⟨vsI,b1,b2⟩:=uW h hf h2
  exact ⟨vI::vsI,by simp[bO,a1,b1],by simp only[i6];exact ⟨_,_,rfl,a2,b2⟩⟩
 |(t,some g)::r,vs,e=>by
  simp only[O6,aG3,aG4] at e
  obtain ⟨p,h1,v,h3,vs',h2,rfl⟩:=e
  obtain ⟨pI,a1,a2⟩:=hf t p h1
  obtain ⟨vI,c1,c2⟩:=EB h.hr a2 h3
  obtain ⟨vsI,b1,b2⟩:=uW h hf h2
  refine ⟨vI::vsI,?_,by simp only[i6];exact ⟨_,_,rfl,c2,b2⟩⟩
  simp only[bO,a1,aI2]
  split at c1
  ·simp only[c1,aI2,b1,aX8]
  ·cases c1
theorem aZ8 {w:VW} {vs:List V} {vsI:List Value} (h:i6 w vs vsI):f9 w (R7 vs) (J9 vsI):=by
 rcases vs with _|⟨v,_|⟨u,r⟩⟩
 ·simp only[i6] at h;subst h;simp only[R7,J9,f9,i6];exact ⟨[],rfl,rfl⟩
 ·simp only[i6] at h
  obtain ⟨x,_,rfl,h1,rfl⟩:=h
  exact h1
 ·have h':=h
  simp only[i6] at h
  obtain ⟨x,_,rfl,h1,y,_,rfl,h2,h3⟩:=h
  simp only[R7,J9,f9]
  exact ⟨_,rfl,h'⟩
def fC (C:C8) (res:List (Nat × Option (Option Nat))) (v:V) (st1:n9):B9
 | .exit _,_,_=>False
 |_,fr,st=>∃ vs,O6 C fr st res=some vs/\K7 C [(0,R7 vs)] st [(0,v)] st1
theorem sU {af:p8} {xs:List V} {xsI:List Value} {v:V} {st1:n9} (h4:xs.length<=af.n) (h:OX C af.code (P4 0 xs) st (fC C af.res v st1)) (hr:Rl C st (P4 0 xs) s (cX 0 xsI)) (hx:xsI.length=xs.length):
  ∃ vI s',body C.E af xsI s=some (vI,s')/\∃ μ F,SR C st1 s' μ F/\f9 (x8 C st1 s' μ F) v vI/\VW.le C.w0 (x8 C st1 s' μ F)/\s'.prot=C.p0/\∀ b,F b->C.w0.F b\/C.p0<=b:=by
 obtain ⟨ex,frI,s',e,fr',st',h1,h2⟩:=eZ af.code h (cX 0 xsI) s hr
 have key:(∃ vs,O6 C fr' st' af.res=some vs/\K7 C [(0,R7 vs)] st' [(0,v)] st1)->∃ vI,bO C.E frI s' af.res=some vI/\∃ μ F,SR C st1 s' μ F/\f9 (x8 C st1 s' μ F) v (J9 vI)/\VW.le C.w0 (x8 C st1 s' μ F)/\s'.prot=C.p0/\∀ b,F b->C.w0.F b\/C.p0<=b:=by
  rintro ⟨vs,hv,hw⟩
  obtain ⟨μ,F,g1,g2,g3,g4,g5⟩:=h1
  obtain ⟨vsI,k1,k2⟩:=uW g1 g2 hv
  have ha:FR (x8 C st' s' μ F) [(0,R7 vs)] [(0,J9 vsI)]:=fun t u e=>by
   rw[n5] at e
   split at e
   ·rename_i ht
    cases e
    exact ⟨_,by rw[L1,aO9 ht],aZ8 k2⟩
   ·cases e
  obtain ⟨μ',F',q1,q2,q3,q4,q5⟩:=hw s' [(0,J9 vsI)] ⟨μ,F,g1,ha,g3,g4,g5⟩
  obtain ⟨vI,r1,r2⟩:=q2 0 v (by rw[n5,aO9 rfl])
  rw[L1,aO9 rfl] at r1
  cases r1
  exact ⟨vsI,k1,μ',F',q1,r2,q3,q4,q5⟩
 have fin:(∃ vI,bO C.E frI s' af.res=some vI/\∃ μ F,SR C st1 s' μ F/\f9 (x8 C st1 s' μ F) v (J9 vI)/\VW.le C.w0 (x8 C st1 s' μ F)/\s'.prot=C.p0/\∀ b,F b->C.w0.F b\/C.p0<=b)->(match ex with| .exit _=>False|_=>True)->
   ∃ vI s',body C.E af xsI s=some (vI,s')/\∃ μ F,SR C st1 s' μ F/\f9 (x8 C st1 s' μ F) v vI/\VW.le C.w0 (x8 C st1 s' μ F)/\s'.prot=C.p0/\∀ b,F b->C.w0.F b\/C.p0<=b:=by
  rintro ⟨vI,k1,k2⟩ hc
  refine ⟨J9 vI,s',?_,k2⟩
  unfold body
  rw[aO9 (by rw[bA2];omega),e]
  cases ex with
  |exit i=>exact hc.elim
  |normal=>simp[k1]
  |ret=>simp[k1]
 cases ex with
 |exit i=>exact h2.elim
 |normal=>exact fin (key h2) trivial
 |ret=>exact fin (key h2) trivial
end
section
variable {old:Nat->Nat->Option Value} {rounds:Nat} {fns:FuncId->Option p8} {prims:FuncId->List Value->St->Option (Value × List A0)} {n:Nat} {f:FuncId} {xs:List V} {v:V} {st1:n9} {af:p8}
theorem iJ:∀ n,(t8 old rounds fns prims n).old=old
 |0=>rfl
 |n+1=>rfl
theorem X3 (n m:Nat):p9 (t8 old rounds fns prims n)=p9 (t8 old rounds fns prims m):=by
 funext h a
 rw[LI,LI,iJ,iJ]
theorem XR (hf:fns f=some af) (h5:af.pure=true) (hp:∀ xs s,prims f xs s=none) (h4:xs.length<=af.n) (hd:hO (t8 old rounds fns prims 0)) (hR:nT st1.own v) (he:st1.ro=0)
  (h:∀ C:C8,C.E=t8 old rounds fns prims n->C.w0.nx=0->OX C af.code (P4 0 xs) ⟨[],0,0⟩ (fC C af.res v st1)):m0 (t8 old rounds fns prims (n+1)) f xs v st1:=by
 intro s F xsI hF hb hx
 let C:C8:=C1 (t8 old rounds fns prims n) s (YG (t8 old rounds fns prims n) s.heap F)
 have hs:SR C ⟨[],0,0⟩ ⟨s.heap,s.next,s.next⟩ (fun _=>none) F:=SR.start hF hb
 have h6:i6 (x8 C ⟨[],0,0⟩ ⟨s.heap,s.next,s.next⟩ (fun _=>none) F) xs xsI:=by
  show i6 ⟨p9 (t8 old rounds fns prims n) s.heap,F,fun _=>none,0⟩ xs xsI
  rw[X3 n (n+1)];exact hx
 obtain ⟨vI,sf,h7,μ,G,g1,g2,g3,g4,g5⟩:=sU (C:=C) (s:=⟨s.heap,s.next,s.next⟩) h4 (h C rfl rfl) ⟨_,F,hs,bR 0 h6,VW.le.refl _,rfl,fun b hb=> .inl hb⟩ hx.length
 have hU:∀ b,b<C.n0->C.U b:=fun b hb=>hb
 have hg:hO C.E:=fun b o v e=>by
  refine hd b o v ?_
  have:C.E.old=old:=iJ n
  rw[this] at e;exact e
 obtain ⟨v2,bs,μ2,G2,k1,k2,k3,k4,k5,k6⟩:=dD9 g1 hU rfl he g4 hg hF g5 g3.F hb g2 hR
 refine ⟨v2,bs,μ2,G2,?_,k2.env (X3 _ _) rfl rfl rfl,?_,k4,k5,fun h8=>k6 ((qS g2 h8).1 _)⟩
 ·simp only[K0,hp,hf,aI2,h5,if_true]
  rw[show body (t8 old rounds fns prims n) af xsI ⟨s.heap,s.next,s.next⟩=some (vI,sf) from h7]
  exact k1
 ·show f9 ⟨p9 (t8 old rounds fns prims (n+1)) _,G2,μ2,st1.next⟩ v v2
  rw[X3 (n+1) n];exact k3
theorem aZ6 {st0:n9} (hf:fns f=some af) (h5:af.pure=true) (hp:∀ xs s,prims f xs s=none) (h4:xs.length<=af.n) (h8:A4 v=true)
  (h:∀ C:C8,C.E=t8 old rounds fns prims n->C.w0.nx=st0.next->∃ st1,OX C af.code (P4 0 xs) ⟨st0.own,st0.next,st0.next⟩ (fC C af.res v st1)):E7 (t8 old rounds fns prims (n+1)) f st0 xs v:=by
 intro s μ F xsI w0 hs hx
 let C:C8:=⟨t8 old rounds fns prims n,s.next,s.heap,(· <s.next),⟨p9 (t8 old rounds fns prims n) s.heap,F,μ,st0.next⟩,s.next⟩
 have hi:SR C ⟨st0.own,st0.next,st0.next⟩ ⟨s.heap,s.next,s.next⟩ μ F:=hs.env (X3 _ _) rfl rfl rfl
 obtain ⟨st1,h⟩:=h C rfl rfl
 have h6:i6 (x8 C ⟨st0.own,st0.next,st0.next⟩ ⟨s.heap,s.next,s.next⟩ μ F) xs xsI:=by
  show i6 ⟨p9 (t8 old rounds fns prims n) s.heap,F,μ,st0.next⟩ xs xsI
  rw[X3 n (n+1)];exact hx
 obtain ⟨vI,sf,h7,μ',G,g1,g2,g3,g4,g5⟩:=sU (C:=C) (s:=⟨s.heap,s.next,s.next⟩) h4 h ⟨_,F,hi,bR 0 h6,VW.le.refl _,rfl,fun b hb=> .inl hb⟩ hx.length
 obtain ⟨q1,q2⟩:=qS g2 h8
 refine ⟨vI,?_,q2⟩
 simp only[K0,hp,hf,aI2,h5,if_true]
 rw[show body (t8 old rounds fns prims n) af xsI ⟨s.heap,s.next,s.next⟩=some (vI,sf) from h7]
 simp only[aI2]
 unfold gc
 rw[q1]
end
mutual
def D1 (H:E9):V->Option V
 | .sc x=>some (.sc x)
 | .sl s n l=>some (.sl s n l)
 | .slk s n c l=>some (.slk s n c l)
 | .dp l o=>some (.dp l o)
 | .ref o k n c=>(dS H (.ref o k n c)).map dv
 | .gr s o n=>(dS H (.gr s o n)).map dv
 | .agg l=>(T4 H l).map .agg
 | .tup l=>(T4 H l).map .tup
 | .fn f a b=>(T4 H a).bind fun a=>(T4 H b).map fun b=> .fn f a b
 | .ifc t v=>(D1 H v).map (.ifc t)
 | .ptr _ _=>none
 | .dead=>none
 | .tok _=>none
def T4 (H:E9):List V->Option (List V)
 | []=>some []
 |v::r=>(D1 H v).bind fun v=>(T4 H r).map (v::·)
end
mutual
def fA:V->List Nat
 | .ref o _ _ _=> [o]
 | .gr _ o _=> [o]
 | .agg l=>S5 l
 | .tup l=>S5 l
 | .fn _ a b=>S5 a++S5 b
 | .ifc _ v=>fA v
 |_=> []
def S5:List V->List Nat
 | []=> []
 |v::r=>fA v++S5 r
end
mutual
def pX (k:Nat):V->V
 | .ref o i n c=> .ref (k+o) i n c
 | .gr s o n=> .gr s (k+o) n
 | .ptr o i=> .ptr (k+o) i
 | .tok o=> .tok (k+o)
 | .agg l=> .agg (mD k l)
 | .tup l=> .tup (mD k l)
 | .fn f a b=> .fn f (mD k a) (mD k b)
 | .ifc t v=> .ifc t (pX k v)
 |v=>v
def mD (k:Nat):List V->List V
 | []=> []
 |v::r=>pX k v::mD k r
end
def shO (k:Nat):Obj->Obj
 | .box t e l=> .box t e (mD k l)
 |o=>o
def wT (k:Nat):E9->E9
 | []=> []
 |(j,o)::r=>(k+j,shO k o)::wT k r
section
variable {C:C8} {st:n9} {s:St} {μ:Nat->Option Nat} {F:Nat->Prop} {E:G3} {H:E9} {heap:o7} {w w':VW}
mutual
theorem A1.sw (h1:w'.ld=w.ld) (h2:w'.F=w.F):∀ {d:D} {v:Value},A1 w d v->A1 w' d v
 | .sc x,v,r=>by simp only[A1] at r ⊢;exact r
 | .sl s n l,v,r=>by
  simp only[A1] at r ⊢
  rcases r with ⟨a,c,e,i,k,r,q⟩|r
  ·exact .inl ⟨a,c,e,by unfold VW.inF at i ⊢;rw[h2];exact i,k,A6.sw h1 h2 r,q⟩
  ·exact .inr r
theorem A6.sw (h1:w'.ld=w.ld) (h2:w'.F=w.F):∀ {l:List D} {a:Addr},A6 w l a->A6 w' l a
 | [],a,_=>by simp only[A6]
 |d::r,a,q=>by
  simp only[A6] at q ⊢
  obtain ⟨⟨v,e1,e2⟩,h3⟩:=q
  exact ⟨⟨v,by rw[h1];exact e1,A1.sw h1 h2 e2⟩,A6.sw h1 h2 h3⟩
end
theorem lB (h2:w'.F=w.F) {a:Addr} (i:w.inF a):w'.inF a:=by unfold VW.inF at i ⊢;rw[h2];exact i
mutual
theorem xV (hr:HR E H heap w) {w1:VW} (h0:VW.le w w1) {w2:VW} (h1:w2.ld=w1.ld) (h2:w2.F=w1.F):∀ {v v':V} {vI:Value},f9 w v vI->D1 H v=some v'->Fin w w1 (fA v)->LdX heap w w1 (fA v)->f9 w2 v' vI
 | .sc x,v',vI,h,e,_,_=>by simp only[D1,aJ7] at e;subst e;simp only[f9] at h ⊢;exact h
 | .sl s n l,v',vI,h,e,_,_=>by
  simp only[D1,aJ7] at e;subst e
  simp only[f9] at h ⊢
  exact (h.mono h0).sw h1 h2
 | .slk s n c l,v',vI,h,e,_,_=>by
  simp only[D1,aJ7] at e;subst e
  have:=f9.mono h0 h
  simp only[f9] at this ⊢
  refine ⟨this.1,this.2.1,this.2.2.imp ?_ id⟩
  rintro ⟨a,e,i,r⟩
  exact ⟨a,e,lB h2 i,r.sw h1 h2⟩
 | .dp l o,v',vI,h,e,_,_=>by
  simp only[D1,aJ7] at e;subst e
  have:=f9.mono h0 h
  simp only[f9] at this ⊢
  obtain ⟨a,e,i,r⟩:=this
  exact ⟨a,e,lB h2 i,r.sw h1 h2⟩
 | .ref o k n c,v',vI,h,e,hF,hL=>by
  simp only[D1,aG4] at e
  obtain ⟨d,hd,rfl⟩:=e
  exact tG ((aB9 hr h0 h hd hF hL).1.sw h1 h2)
 | .gr s o n,v',vI,h,e,hF,hL=>by
  simp only[D1,aG4] at e
  obtain ⟨d,hd,rfl⟩:=e
  exact tG ((aB9 hr h0 h hd hF hL).1.sw h1 h2)
 | .agg l,v',vI,h,e,hF,hL=>by
  simp only[D1,aG4] at e
  obtain ⟨l',hl,rfl⟩:=e
  simp only[f9] at h ⊢
  obtain ⟨vs,rfl,h⟩:=h
  exact ⟨vs,rfl,gQ hr h0 h1 h2 h hl hF hL⟩
 | .tup l,v',vI,h,e,hF,hL=>by
  simp only[D1,aG4] at e
  obtain ⟨l',hl,rfl⟩:=e
  simp only[f9] at h ⊢
  obtain ⟨vs,rfl,h⟩:=h
  exact ⟨vs,rfl,gQ hr h0 h1 h2 h hl hF hL⟩
 | .fn f a b,v',vI,h,e,hF,hL=>by
  simp only[D1,aG3,aG4] at e
  obtain ⟨a',ha,b',hb,rfl⟩:=e
  simp only[f9] at h ⊢
  obtain ⟨as,bs,rfl,q1,q2⟩:=h
  exact ⟨as,bs,rfl,gQ hr h0 h1 h2 q1 ha (fun o ho=>hF o (by simp[fA,ho])) (fun o ho=>hL o (by simp[fA,ho])),gQ hr h0 h1 h2 q2 hb (fun o ho=>hF o (by simp[fA,ho])) (fun o ho=>hL o (by simp[fA,ho]))⟩
 | .ifc t u,v',vI,h,e,hF,hL=>by
  simp only[D1,aG4] at e
  obtain ⟨u',hu,rfl⟩:=e
  simp only[f9] at h ⊢
  obtain ⟨x,rfl,h⟩:=h
  exact ⟨x,rfl,xV hr h0 h1 h2 h hu hF hL⟩
 | .ptr _ _,v',vI,h,e,_,_=>by simp[D1] at e
 | .dead,v',vI,h,e,_,_=>by simp[D1] at e
 | .tok _,v',vI,h,e,_,_=>by simp[D1] at e
theorem gQ (hr:HR E H heap w) {w1:VW} (h0:VW.le w w1) {w2:VW} (h1:w2.ld=w1.ld) (h2:w2.F=w1.F):∀ {l l':List V} {vs:List Value},i6 w l vs->T4 H l=some l'->Fin w w1 (S5 l)->LdX heap w w1 (S5 l)->i6 w2 l' vs
 | [],l',vs,h,e,_,_=>by simp only[T4,aJ7] at e;subst e;simp only[i6] at h ⊢;exact h
 |v::r,l',vs,h,e,hF,hL=>by
  simp only[T4,aG3,aG4] at e
  obtain ⟨v',hv,r',hk,rfl⟩:=e
  simp only[i6] at h ⊢
  obtain ⟨u,us,rfl,q1,q2⟩:=h
  exact ⟨u,us,rfl,xV hr h0 h1 h2 q1 hv (fun o ho=>hF o (by simp[S5,ho])) (fun o ho=>hL o (by simp[S5,ho])),gQ hr h0 h1 h2 q2 hk (fun o ho=>hF o (by simp[S5,ho])) (fun o ho=>hL o (by simp[S5,ho]))⟩
end
theorem aO7 {v:V} {d:D} (h:dS H v=some d):∀ o ∈ xR v,∃ ob,j7 H o=some ob/\ob.froz.fz=true:=by
 intro o ho
 cases v with
 |ref o' k n c=>
  simp only[xR,cZ2] at ho;subst ho
  simp only[dS] at h
  split at h
  ·rename_i e;exact ⟨_,e,rfl⟩
  ·cases h
 |gr s o' n=>
  simp only[xR,cZ2] at ho;subst ho
  simp only[dS] at h
  split at h
  ·rename_i e;exact ⟨_,e,rfl⟩
  ·cases h
 |_=>simp[xR] at ho
mutual
theorem WD:∀ {v v':V},D1 H v=some v'->∀ o ∈ fA v,∃ ob,j7 H o=some ob/\ob.froz.fz=true
 | .ref o' k n c,v',e,o,ho=>by
  simp only[D1,aG4] at e
  obtain ⟨d,hd,rfl⟩:=e
  exact aO7 hd o (by simpa [fA,xR] using ho)
 | .gr s o' n,v',e,o,ho=>by
  simp only[D1,aG4] at e
  obtain ⟨d,hd,rfl⟩:=e
  exact aO7 hd o (by simpa [fA,xR] using ho)
 | .agg l,v',e,o,ho=>by
  simp only[D1,aG4] at e
  obtain ⟨l',hl,rfl⟩:=e
  exact cU hl o (by simpa only[fA] using ho)
 | .tup l,v',e,o,ho=>by
  simp only[D1,aG4] at e
  obtain ⟨l',hl,rfl⟩:=e
  exact cU hl o (by simpa only[fA] using ho)
 | .fn f a b,v',e,o,ho=>by
  simp only[D1,aG3,aG4] at e
  obtain ⟨a',ha,b',hb,rfl⟩:=e
  simp only[fA,cB1] at ho
  rcases ho with ho|ho
  ·exact cU ha o ho
  ·exact cU hb o ho
 | .ifc t u,v',e,o,ho=>by
  simp only[D1,aG4] at e
  obtain ⟨u',hu,rfl⟩:=e
  exact WD hu o (by simpa only[fA] using ho)
 | .sc _,_,_,o,ho=>by simp[fA] at ho
 | .sl _ _ _,_,_,o,ho=>by simp[fA] at ho
 | .slk _ _ _ _,_,_,o,ho=>by simp[fA] at ho
 | .dp _ _,_,_,o,ho=>by simp[fA] at ho
 | .ptr _ _,_,_,o,ho=>by simp[fA] at ho
 | .dead,_,_,o,ho=>by simp[fA] at ho
 | .tok _,_,_,o,ho=>by simp[fA] at ho
theorem cU:∀ {l l':List V},T4 H l=some l'->∀ o ∈ S5 l,∃ ob,j7 H o=some ob/\ob.froz.fz=true
 | [],_,_,o,ho=>by simp[S5] at ho
 |v::r,l',e,o,ho=>by
  simp only[T4,aG3,aG4] at e
  obtain ⟨v',hv,r',hk,rfl⟩:=e
  simp only[S5,cB1] at ho
  rcases ho with ho|ho
  ·exact WD hv o ho
  ·exact cU hk o ho
end
theorem SR.snaps (h:SR C st s μ F) {xs xs':List V} {xsI:List Value} (hx:i6 (x8 C st s μ F) xs xsI) (hs:T4 st.own xs=some xs'):ClF s.heap s.next (cB μ F (S5 xs))/\i6 (YG C.E s.heap (cB μ F (S5 xs))) xs' xsI:=by
 have h0:VW.le (x8 C st s μ F) ⟨p9 C.E s.heap,cB μ F (S5 xs),μ,st.next⟩:=⟨fun _ _=>rfl,fun b hb=> .inl hb,aQ5 _,fun _ _ _ e=>e⟩
 refine ⟨fun b hb=>?_,gQ (w2:=YG C.E s.heap (cB μ F (S5 xs))) h.hr h0 rfl rfl hx hs (fun o ho b e=> .inr ⟨o,ho,e⟩) (fun o ho b e k sp blk hb=>fE (E:=C.E) hb)⟩
 rcases hb with hb|⟨o,ho,e⟩
 ·refine ⟨(h.lt b hb).1,?_⟩
  obtain ⟨blk,c1,c2⟩:=h.cl b hb
  exact ⟨blk,c1,fun n i hi=> .inl (c2 n i hi)⟩
 ·refine ⟨(h.dom o b e).1,?_⟩
  obtain ⟨ob,q1,q2⟩:=cU hs o ho
  obtain ⟨blk,c1,c2⟩:=h.row_cl q1 q2 e
  exact ⟨blk,c1,fun n i hi=> .inl (c2 n i hi)⟩
theorem SR.enter (h:SR C st s μ F) (w0:VW):SR (C1 C.E s w0) ⟨st.own,st.next,st.next⟩ ⟨s.heap,s.next,s.next⟩ μ F:=
 ⟨h.obj,fun o ob b e e2 hz=>⟨(h.wr o ob b e e2 hz).1,fun h7=>by have:=(h.own o ob e).1;simp only at h7;omega⟩,h.fz,h.inj,h.dom,h.lt,h.cl,fun b hb=>⟨hb,rfl⟩,aQ5 _,h.own,h.hb,aQ5 _,fun o b e h7=>by have:=(h.dom o b e).2.1;simp only at h7;omega⟩
theorem m0.flat {f:FuncId} {xs xs':List V} {v:V} {st1:n9} (h:m0 E f xs' v st1) (hf:A4 v=true) (hs:T4 st.own xs=some xs'):E7 E f st xs v:=by
 intro s μ F xsI w0 h5 hx
 obtain ⟨a1,a2⟩:=h5.snaps hx hs
 obtain ⟨vI,bs,μ2,G,e,_,hv,_,_,hb⟩:=h s _ xsI a1 h5.hb a2
 rw[hb hf] at e
 exact ⟨vI,e,(qS hv hf).2⟩
theorem m8 {f:FuncId} {xs:List V} {v:V} {Q:V->n9->Prop} (h:E7 C.E f st xs v) (hq:Q v st):T2 C f xs st Q:=by
 refine ⟨v,st,hq,fun s μ F xsI h5 hx hp=>?_⟩
 obtain ⟨vI,e,hv⟩:=h s μ F xsI C.w0 (h5.enter C.w0) hx
 exact ⟨vI,s,μ,F,by simp only[callI,e];rfl,h5,hv _,VW.le.refl _,rfl,aQ5 _,fun b hb=> .inl hb⟩
def vB (C:C8) (f:FuncId) (xs:List V) (H:E9) (nx:Nat) (Q:V->List Obj->Prop) (L:Prop):Prop:=aD3 C f xs H nx Q\/L
theorem O7 {f:FuncId} {xs:List V} {v:V} {nx:Nat} {Q:V->List Obj->Prop} {L:Prop} (h:E7 C.E f ⟨H,nx,nx⟩ xs v) (hq:Q v []):vB C f xs H nx Q L:= .inl (.inl ⟨v,h,hq⟩)
theorem bE1 {f:FuncId} {xs:List V} {v:V} {ob:Obj} {nx:Nat} {Q:V->List Obj->Prop} {L:Prop} (h:LG C.E f ⟨H,nx,nx⟩ xs v ob) (hq:Q v [ob]):vB C f xs H nx Q L:= .inl (.inr (.inl ⟨v,ob,h,hq⟩))
theorem SR.freeze (h:SR C st s μ F) {fz:List Nat} (h8:D4 st.ro st.own fz=true):SR C ⟨D7 fz st.own,st.next,st.ro⟩ s μ (cB μ F fz)/\VW.le (x8 C st s μ F) (x8 C ⟨D7 fz st.own,st.next,st.ro⟩ s μ (cB μ F fz)):=by
 have h0:VW.le (x8 C st s μ F) (x8 C ⟨D7 fz st.own,st.next,st.ro⟩ s μ (cB μ F fz)):=⟨fun _ _=>rfl,fun b hb=> .inl hb,aQ5 _,fun _ _ _ e=>e⟩
 have h6:∀ i obj,j7 (D7 fz st.own) i=some obj->∃ ob0,j7 st.own i=some ob0/\obj=if p5 i fz then ob0.froz else ob0:=fun i obj e=>by
  rw[S4] at e
  simp only[aG4] at e
  obtain ⟨ob0,e1,e2⟩:=e
  exact ⟨ob0,e1,e2.symm⟩
 refine ⟨⟨?_,?_,?_,h.inj,?_,?_,?_,h.un,h.n0,?_,h.hb,h.pr,h.pb⟩,h0⟩
 ·intro i obj e hn
  obtain ⟨ob0,e1,rfl⟩:=h6 i obj e
  have ht:ob0.none=false:=by split at hn;(rw[cR] at hn;exact hn);exact hn
  obtain ⟨c,blk0,m1,m2,m3⟩:=h.obj i ob0 e1 ht
  refine ⟨c,blk0,m1,m2,?_⟩
  split
  ·exact zZ (m3.mono h0)
  ·exact m3.mono h0
 ·intro i obj c e e3 h9
  obtain ⟨ob0,e1,rfl⟩:=h6 i obj e
  by_cases hf:p5 i fz=true
  ·rw[aO9 hf] at h9
   obtain ⟨ob1,q1,q2,_⟩:=W6 h8 i ((m7 _ _).1 hf)
   rw[e1] at q1;cases q1
   rw[h9] at q2;cases q2
  ·rw[aQ4 hf] at h9
   obtain ⟨w2,w3⟩:=h.wr i ob0 c e1 e3 h9
   refine ⟨?_,w3⟩
   rintro (hb|⟨j,hj,ej⟩)
   ·exact w2 hb
   ·have:=h.inj i j c e3 ej
    subst this
    exact hf ((m7 _ _).2 hj)
 ·intro i obj c e e3 h9
  obtain ⟨ob0,e1,rfl⟩:=h6 i obj e
  by_cases hf:p5 i fz=true
  ·exact .inr ⟨i,(m7 _ _).1 hf,e3⟩
  ·rw[aQ4 hf] at h9
   exact .inl (h.fz i ob0 c e1 e3 h9)
 ·intro i c e
  obtain ⟨d1,d2,ob0,d3,d4⟩:=h.dom i c e
  refine ⟨d1,d2,(if p5 i fz then ob0.froz else ob0),by rw[S4,d3];rfl,?_⟩
  split
  ·rw[cR];exact d4
  ·exact d4
 ·rintro c (hc|⟨i,_,e⟩)
  ·exact h.lt c hc
  ·obtain ⟨d1,_,ob0,d3,d4⟩:=h.dom i c e
   obtain ⟨b',blk0,m1,m2,_⟩:=h.obj i ob0 d3 d4
   rw[e] at m1;cases m1
   exact ⟨d1,blk0,m2⟩
 ·rintro c (hc|⟨i,hi,e⟩)
  ·obtain ⟨blk0,c1,c2⟩:=h.cl c hc
   exact ⟨blk0,c1,fun n j hj=> .inl (c2 n j hj)⟩
  ·obtain ⟨ob0,q1,q2,_⟩:=W6 h8 i hi
   obtain ⟨blk0,c1,c2⟩:=h.row_cl q1 q2 e
   exact ⟨blk0,c1,fun n j hj=> .inl (c2 n j hj)⟩
 ·intro i obj e
  obtain ⟨ob0,e1,rfl⟩:=h6 i obj e
  obtain ⟨o1,o2⟩:=h.own i ob0 e1
  refine ⟨o1,?_⟩
  split
  ·rw[MS];exact o2
  ·exact o2
mutual
theorem OT {k:Nat} {w w':VW} (h1:w'.ld=w.ld) (h2:w'.F=w.F) (h3:k+w.nx<=w'.nx) (h4:∀ o b,w'.μ (k+o)=some b->w.μ o=some b):∀ {v:V} {vI:Value},f9 w v vI->f9 w' (pX k v) vI
 | .sc x,vI,h=>by simp only[pX,f9] at h ⊢;exact h
 | .sl s n l,vI,h=>by simp only[pX,f9] at h ⊢;exact h.sw h1 h2
 | .slk s n c l,vI,h=>by
  simp only[pX,f9] at h ⊢
  refine ⟨h.1,h.2.1,h.2.2.imp ?_ id⟩
  rintro ⟨a,e,i,r⟩
  exact ⟨a,e,lB h2 i,r.sw h1 h2⟩
 | .dp l o,vI,h=>by
  simp only[pX,f9] at h ⊢
  obtain ⟨a,e,i,r⟩:=h
  exact ⟨a,e,lB h2 i,r.sw h1 h2⟩
 | .ref o i n c,vI,h=>by
  simp only[pX,f9] at h ⊢
  obtain ⟨q1,q2,b',e,q3⟩:=h
  exact ⟨by omega,q2,b',e,fun b hb=>q3 b (h4 o b hb)⟩
 | .gr s o n,vI,h=>by
  simp only[pX,f9] at h ⊢
  obtain ⟨q1,q2⟩:=h
  refine ⟨by omega,q2.imp (And.imp id (Or.imp id (And.imp id ?_))) ?_⟩
  ·rintro ⟨a,c,e,i⟩
   exact ⟨a,c,e,lB h2 i⟩
  ·rintro ⟨hn,b',e,q3⟩
   exact ⟨hn,b',e,fun b hb=>q3 b (h4 o b hb)⟩
 | .ptr o i,vI,h=>by
  simp only[pX,f9] at h ⊢
  obtain ⟨q1,b',e,q3⟩:=h
  exact ⟨by omega,b',e,fun b hb=>q3 b (h4 o b hb)⟩
 | .agg l,vI,h=>by
  simp only[pX,f9] at h ⊢
  obtain ⟨vs,e,h⟩:=h
  exact ⟨vs,e,gX h1 h2 h3 h4 h⟩
 | .tup l,vI,h=>by
  simp only[pX,f9] at h ⊢
  obtain ⟨vs,e,h⟩:=h
  exact ⟨vs,e,gX h1 h2 h3 h4 h⟩
 | .fn f a b,vI,h=>by
  simp only[pX,f9] at h ⊢
  obtain ⟨as,bs,e,q1,q2⟩:=h
  exact ⟨as,bs,e,gX h1 h2 h3 h4 q1,gX h1 h2 h3 h4 q2⟩
 | .ifc t u,vI,h=>by
  simp only[pX,f9] at h ⊢
  obtain ⟨x,e,h⟩:=h
  exact ⟨x,e,OT h1 h2 h3 h4 h⟩
 | .dead,vI,h=>by simp only[pX,f9]
 | .tok o,vI,h=>by
  simp only[pX,f9] at h ⊢
  obtain ⟨q1,b',e,q3⟩:=h
  exact ⟨by omega,b',e,fun b hb=>q3 b (h4 o b hb)⟩
theorem gX {k:Nat} {w w':VW} (h1:w'.ld=w.ld) (h2:w'.F=w.F) (h3:k+w.nx<=w'.nx) (h4:∀ o b,w'.μ (k+o)=some b->w.μ o=some b):∀ {l:List V} {vs:List Value},i6 w l vs->i6 w' (mD k l) vs
 | [],vs,h=>by simp only[mD,i6] at h ⊢;exact h
 |v::r,vs,h=>by
  simp only[mD,i6] at h ⊢
  obtain ⟨u,us,e,q1,q2⟩:=h
  exact ⟨u,us,e,OT h1 h2 h3 h4 q1,gX h1 h2 h3 h4 q2⟩
end
theorem OH (k:Nat):∀ (H:E9) (o:Nat),j7 (wT k H) (k+o)=(j7 H o).map (shO k)
 | [],o=>rfl
 |(j,ob)::r,o=>by
  simp only[wT]
  rw[n5,n5,OH k r o]
  by_cases h:o=j
  ·subst h;rw[aO9 rfl,aO9 rfl];rfl
  ·rw[aQ4 h,aQ4 (by omega)]
theorem OI (k:Nat):∀ (H:E9) (o:Nat),o<k->j7 (wT k H) o=none
 | [],o,_=>rfl
 |(j,ob)::r,o,h=>by
  simp only[wT]
  rw[n5,aQ4 (by omega)]
  exact OI k r o h
theorem qB {α:Type}:∀ (a b:List (Nat × α)) (i:Nat),j7 (a++b) i=match j7 a i with|some x=>some x|none=>j7 b i
 | [],b,i=>rfl
 |(j,v)::r,b,i=>by
  simp only[dI5]
  rw[n5,n5]
  split
  ·rfl
  ·exact qB r b i
theorem VX (k:Nat) (o:Obj):(shO k o).none=o.none:=by
 cases o with
 |gro t e z l=>cases l<;>rfl
 |_=>rfl
theorem bS3 (k:Nat) (o:Obj):(shO k o).fz=o.fz:=by cases o<;>rfl
theorem cV9 (k:Nat) (o:Obj):(shO k o).ok=o.ok:=by cases o<;>rfl
theorem SR.join (h:SR C st s μ F) {st1:n9} {bs:List A0} {μ2:Nat->Option Nat} {G:Nat->Prop} {w0:VW} (h1:SR (C1 C.E s w0) st1 ⟨B0 s.heap s.next bs,s.next+bs.length,s.next⟩ μ2 G) (h7:st1.ro=0) (hG:∀ b,G b->F b\/s.next<=b) (hm:∀ b,F b->G b):
  ∃ μ',SR C ⟨wT st.next st1.own++st.own,st.next+st1.next,st.ro⟩ (s.push bs) μ' G/\VW.le (x8 C st s μ F) (x8 C ⟨wT st.next st1.own++st.own,st.next+st1.next,st.ro⟩ (s.push bs) μ' G)/\
   ∀ {v:V} {vI:Value},f9 (x8 (C1 C.E s w0) st1 ⟨B0 s.heap s.next bs,s.next+bs.length,s.next⟩ μ2 G) v vI->f9 (x8 C ⟨wT st.next st1.own++st.own,st.next+st1.next,st.ro⟩ (s.push bs) μ' G) (pX st.next v) vI:=by
 let μ':Nat->Option Nat:=fun o=>if o<st.next then μ o else μ2 (o - st.next)
 have he:∀ o b,o<st.next->μ' o=some b->μ o=some b:=fun o b ho e=>by simp only[μ'] at e;rw[aO9 ho] at e;exact e
 have hg:∀ o b,μ' (st.next+o)=some b->μ2 o=some b:=fun o b e=>by
  simp only[μ'] at e;rw[aQ4 (by omega),show st.next+o - st.next=o by omega] at e;exact e
 have hh:∀ o b,μ' o=some b->(o<st.next/\μ o=some b/\b<s.next)\/(∃ o1,o=st.next+o1/\μ2 o1=some b/\s.next<=b):=fun o b e=>by
  by_cases ho:o<st.next
  ·exact .inl ⟨ho,he o b ho e,(h.dom o b (he o b ho e)).1⟩
  ·refine .inr ⟨o - st.next,by omega,?_,?_⟩
   ·exact hg _ b (by rw[show st.next+(o - st.next)=o by omega];exact e)
   ·exact h1.pb (o - st.next) b (hg _ b (by rw[show st.next+(o - st.next)=o by omega];exact e)) (by rw[h7];exact bA5 _)
 have i7:∀ b,b<s.next->i7 (B0 s.heap s.next bs) b=i7 s.heap b:=fun b hb=>by rw[B3,aQ4 (by omega)]
 have hw:∀ b,F b->b<s.next:=fun b hb=>(h.lt b hb).1
 have h0:VW.le (x8 C st s μ F) (x8 C ⟨wT st.next st1.own++st.own,st.next+st1.next,st.ro⟩ (s.push bs) μ' G):=by
  refine ⟨fun a i=>?_,hm,Nat.le_add_right _ _,fun o b ho e=>he o b ho e⟩
  obtain ⟨b,o,sp⟩:=a
  cases sp with
  |none=>rfl
  |some k=>simp only[p9,St.push];rw[i7 b (hw b i)]
 have hy:∀ {v:V} {vI:Value},f9 (x8 (C1 C.E s w0) st1 ⟨B0 s.heap s.next bs,s.next+bs.length,s.next⟩ μ2 G) v vI->f9 (x8 C ⟨wT st.next st1.own++st.own,st.next+st1.next,st.ro⟩ (s.push bs) μ' G) (pX st.next v) vI:=
  fun hv=>OT (w':=x8 C ⟨wT st.next st1.own++st.own,st.next+st1.next,st.ro⟩ (s.push bs) μ' G) (k:=st.next) (w:=x8 (C1 C.E s w0) st1 ⟨B0 s.heap s.next bs,s.next+bs.length,s.next⟩ μ2 G) rfl rfl (aQ5 _) hg hv
 have h6:∀ o ob,j7 (wT st.next st1.own++st.own) o=some ob->(o<st.next/\j7 st.own o=some ob)\/(∃ o1 ob1,o=st.next+o1/\j7 st1.own o1=some ob1/\ob=shO st.next ob1):=fun o ob e=>by
  rw[qB] at e
  by_cases ho:o<st.next
  ·rw[OI _ _ _ ho] at e;exact .inl ⟨ho,e⟩
  ·have e':o=st.next+(o - st.next):=by omega
   rw[e',OH] at e
   cases ha:j7 st1.own (o - st.next) with
   |none=>
    rw[ha] at e
    simp only[Option.map_none] at e
    rw[<- e'] at e
    have:=(h.own o ob e).1
    omega
   |some ob1=>rw[ha] at e;simp only[aX8,aJ7] at e;exact .inr ⟨_,ob1,e',ha,e.symm⟩
 have g0:∀ o ob,o<st.next->j7 st.own o=some ob->j7 (wT st.next st1.own++st.own) o=some ob:=fun o ob ho e=>by rw[qB,OI _ _ _ ho];exact e
 have g5:∀ o ob,j7 st1.own o=some ob->j7 (wT st.next st1.own++st.own) (st.next+o)=some (shO st.next ob):=fun o ob e=>by rw[qB,OH,e];rfl
 refine ⟨μ',⟨?_,?_,?_,?_,?_,?_,?_,?_,?_,?_,?_,?_,?_⟩,h0,hy⟩
 ·intro o ob e hn
  rcases h6 o ob e with ⟨ho,e1⟩|⟨o1,ob1,rfl,e1,rfl⟩
  ·obtain ⟨b,blk,m1,m2,m3⟩:=h.obj o ob e1 hn
   exact ⟨b,blk,by simp only[μ'];rw[aO9 ho];exact m1,by simp only[St.push];rw[i7 b (h.dom o b m1).1];exact m2,m3.mono h0⟩
  ·rw[VX] at hn
   obtain ⟨b,blk,m1,m2,m3⟩:=h1.obj o1 ob1 e1 hn
   refine ⟨b,blk,by simp only[μ'];rw[aQ4 (by omega),show st.next+o1 - st.next=o1 by omega];exact m1,m2,?_⟩
   have hD:∀ {l:List D} {vs:List Value},m6 (x8 (C1 C.E s w0) st1 ⟨B0 s.heap s.next bs,s.next+bs.length,s.next⟩ μ2 G) l vs->m6 (x8 C ⟨wT st.next st1.own++st.own,st.next+st1.next,st.ro⟩ (s.push bs) μ' G) l vs:=by
    intro l vs hl
    exact m6.of hl.length fun i d v q1 q2=>by
     obtain ⟨v',a,b⟩:=hl.get i d q1
     rw[q2] at a;cases a
     exact A1.sw (w:=x8 (C1 C.E s w0) st1 ⟨B0 s.heap s.next bs,s.next+bs.length,s.next⟩ μ2 G) (w':=x8 C ⟨wT st.next st1.own++st.own,st.next+st1.next,st.ro⟩ (s.push bs) μ' G) rfl rfl b
   cases ob1 with
   |box t e' l=>exact ⟨m3.1,m3.2.1,m3.2.2.1,gX (w':=x8 C ⟨wT st.next st1.own++st.own,st.next+st1.next,st.ro⟩ (s.push bs) μ' G) (k:=st.next) (w:=x8 (C1 C.E s w0) st1 ⟨B0 s.heap s.next bs,s.next+bs.length,s.next⟩ μ2 G) rfl rfl (aQ5 _) hg m3.2.2.2⟩
   |row t e' g z l=>exact ⟨m3.1,m3.2.1,m3.2.2.1,hD m3.2.2.2⟩
   |gro t e' z l=>exact ⟨m3.1,m3.2.1,m3.2.2.1,hD m3.2.2.2⟩
 ·intro o ob b e e2 hz
  rcases h6 o ob e with ⟨ho,e1⟩|⟨o1,ob1,rfl,e1,rfl⟩
  ·obtain ⟨q1,q2⟩:=h.wr o ob b e1 (he o b ho e2) hz
   refine ⟨fun hb=>?_,q2⟩
   have:=(h.dom o b (he o b ho e2)).1
   rcases hG b hb with hb|hb
   ·exact q1 hb
   ·omega
  ·rw[bS3] at hz
   have e3:=hg o1 b e2
   have hb:=h1.pb o1 b e3 (by rw[h7];exact bA5 _)
   simp only at hb
   exact ⟨(h1.wr o1 ob1 b e1 e3 hz).1,fun _=>⟨by have:=h.pr;simp only[St.push];omega,fun hu=>by have:=(h.un b hu).1;have:=h.n0;omega⟩⟩
 ·intro o ob b e e2 hz
  rcases h6 o ob e with ⟨ho,e1⟩|⟨o1,ob1,rfl,e1,rfl⟩
  ·exact hm b (h.fz o ob b e1 (he o b ho e2) hz)
  ·rw[bS3] at hz
   exact h1.fz o1 ob1 b e1 (hg o1 b e2) hz
 ·intro o o' b e e'
  rcases hh o b e with ⟨_,a1,a2⟩|⟨o1,rfl,a1,a2⟩<;>rcases hh o' b e' with ⟨_,b1,b2⟩|⟨o2,rfl,b1,b2⟩
  ·exact h.inj o o' b a1 b1
  ·omega
  ·omega
  ·rw[h1.inj o1 o2 b a1 b1]
 ·intro o b e
  rcases hh o b e with ⟨ho,a1,a2⟩|⟨o1,rfl,a1,a2⟩
  ·obtain ⟨d1,d2,ob,d3,d4⟩:=h.dom o b a1
   exact ⟨by simp only[St.push];omega,by simp only;omega,ob,g0 o ob ho d3,d4⟩
  ·obtain ⟨d1,d2,ob,d3,d4⟩:=h1.dom o1 b a1
   exact ⟨d1,by simp only;omega,_,g5 o1 ob d3,by rw[VX];exact d4⟩
 ·exact h1.lt
 ·exact h1.cl
 ·intro b hb
  obtain ⟨u1,u2⟩:=h.un b hb
  exact ⟨u1,by simp only[St.push];rw[i7 b (by have:=h.n0;omega)];exact u2⟩
 ·have:=h.n0;simp only[St.push];omega
 ·intro o ob e
  rcases h6 o ob e with ⟨ho,e1⟩|⟨o1,ob1,rfl,e1,rfl⟩
  ·exact ⟨by simp only;omega,(h.own o ob e1).2⟩
  ·obtain ⟨q1,q2⟩:=h1.own o1 ob1 e1
   exact ⟨by simp only;omega,by rw[cV9];exact q2⟩
 ·exact h1.hb
 ·have:=h.pr;simp only[St.push];omega
 ·intro o b e hr
  rcases hh o b e with ⟨ho,a1,a2⟩|⟨o1,rfl,a1,a2⟩
  ·exact h.pb o b a1 hr
  ·have:=h.pr;simp only[St.push];omega
theorem bE {f:FuncId} {xs xs':List V} {v:V} {st1:n9} {Q:V->n9->Prop} (h:m0 C.E f xs' v st1) (hs:T4 st.own xs=some xs') (h8:D4 st.ro st.own (S5 xs)=true) (h7:st1.ro=0)
  (hq:Q (pX st.next v) ⟨wT st.next st1.own++D7 (S5 xs) st.own,st.next+st1.next,st.ro⟩):T2 C f xs st Q:=by
 refine ⟨_,_,hq,fun s μ F xsI h5 hx hp=>?_⟩
 obtain ⟨a1,a2⟩:=h5.snaps hx hs
 obtain ⟨vI,bs,μ2,G,e,g1,g2,g3,g4,_⟩:=h s _ xsI a1 h5.hb a2
 obtain ⟨f1,f2⟩:=h5.freeze h8
 obtain ⟨μ',j1,j2,j3⟩:=f1.join g1 h7 g3 g4
 refine ⟨vI,s.push bs,μ',G,by simp only[callI,e],j1,j3 g2,f2.trans j2,rfl,by simp[St.push],fun b hb=>?_⟩
 rcases g3 b hb with hb|hb
 ·exact h5.fin_ge h8 hb
 ·exact .inr (dJ2 h5.pr hb)
theorem cB4 {f:FuncId} {xs:List V} {v:V} {Q:V->Prop} (h:m0 C.E f xs v ⟨[],0,0⟩) (hs:T4 st.own xs=some xs) (hz:S5 xs= []) (hv:∀ k,pX k v=v) (hq:Q v):bA9 C f xs st Q:=by
 refine ⟨v,hq,fun s μ F xsI h5 hx=>?_⟩
 have h8:D4 st.ro st.own (S5 xs)=true:=by rw[hz];rfl
 obtain ⟨a1,a2⟩:=h5.snaps hx hs
 obtain ⟨vI,bs,μ2,G,e,g1,g2,g3,g4,_⟩:=h ⟨s.heap,s.next,s.next⟩ _ xsI a1 h5.hb a2
 obtain ⟨f1,f2⟩:=h5.freeze h8
 obtain ⟨μ',j1,j2,j3⟩:=f1.join (s:=s) g1 rfl g3 g4
 have g6:(⟨wT st.next []++D7 (S5 xs) st.own,st.next+0,st.ro⟩:n9)=st:=by
  rw[hz,y9];rfl
 rw[g6] at j1 j2 j3
 have j3:=j3 g2
 rw[hv] at j3
 refine ⟨vI,bs,μ',G,e,j1,j3,f2.trans j2,fun b hb=>?_⟩
 rcases g3 b hb with hb|hb
 ·exact h5.fin_ge h8 hb
 ·exact .inr (dJ2 h5.pr hb)
end
mutual
def Z1 (ρ:List (Nat × Nat)):V->V
 | .ref o i n c=>match j7 ρ o with|some j=> .ref j i n c|none=> .dead
 | .gr s o n=>match j7 ρ o with|some j=> .gr s j n|none=> .dead
 | .ptr o i=>match j7 ρ o with|some j=> .ptr j i|none=> .dead
 | .tok o=>match j7 ρ o with|some j=> .tok j|none=> .dead
 | .agg l=> .agg (dW ρ l)
 | .tup l=> .tup (dW ρ l)
 | .fn f a b=> .fn f (dW ρ a) (dW ρ b)
 | .ifc t v=> .ifc t (Z1 ρ v)
 |v=>v
def dW (ρ:List (Nat × Nat)):List V->List V
 | []=> []
 |v::r=>Z1 ρ v::dW ρ r
end
def UZ (ρ:List (Nat × Nat)):Obj->Obj
 | .box t e l=> .box t e (dW ρ l)
 |o=>o
def xE (ρ:List (Nat × Nat)):D0->D0
 | []=> []
 |(t,v)::r=>(t,Z1 ρ v)::xE ρ r
def uG (ρ:List (Nat × Nat)) (H:E9):List (Nat × Nat)->E9
 | []=> []
 |(i,j)::r=>match j7 H i with
   |some o=>(j,UZ ρ o)::uG ρ H r
   |none=>uG ρ H r
def aL0 (j:Nat):List (Nat × Nat)->Bool
 | []=>true
 |(_,k)::r=> !Nat.beq j k && aL0 j r
def NQ (j:Nat):List (Nat × Nat)->Bool
 | []=>true
 |(k,_)::r=> !Nat.beq j k && NQ j r
def IT (base ro k:Nat):List (Nat × Nat)->Bool
 | []=>true
 |(i,j)::r=>aL0 j r && NQ i r && Nat.blt j k && (Nat.ble base j||Nat.beq i j) && (!Nat.ble ro j||Nat.ble ro i) && IT base ro k r
section
variable {C:C8} {st:n9} {s:St} {μ:Nat->Option Nat} {F:Nat->Prop}
theorem BH {j:Nat}:∀ {r:List (Nat × Nat)},aL0 j r=true->∀ i,(i,j) ∉ r
 | [],_,i,h=>by cases h
 |(a,b)::r,hn,i,h=>by
  simp only[aL0,aO3,cL0,BC] at hn
  rcases bX5.1 h with h|h
  ·cases h;exact hn.1 rfl
  ·exact BH hn.2 i h
theorem uB {i:Nat}:∀ {r:List (Nat × Nat)},NQ i r=true->∀ j,(i,j) ∉ r
 | [],_,j,h=>by cases h
 |(a,b)::r,hn,j,h=>by
  simp only[NQ,aO3,cL0,BC] at hn
  rcases bX5.1 h with h|h
  ·cases h;exact hn.1 rfl
  ·exact uB hn.2 j h
theorem U7 {base ro k:Nat}:∀ {r:List (Nat × Nat)},IT base ro k r=true->∀ i j,(i,j) ∈ r->j<k/\(base<=j\/i=j)/\(ro<=j->ro<=i)/\(∀ i',(i',j) ∈ r->i'=i)/\∀ j',(i,j') ∈ r->j'=j
 | [],_,i,j,h=>by cases h
 |(a,b)::r,hk,i,j,h=>by
  simp only[IT,aO3,cW5,cL0,bA6,bA2] at hk
  obtain ⟨⟨⟨⟨⟨h1,h2⟩,h3⟩,h4⟩,h5⟩,h6⟩:=hk
  have hp:base<=b\/a=b:=h4.imp id j9.1
  have hq:ro<=b->ro<=a:=fun hb=>by
   rcases h5 with h5|h5
   ·have:Nat.ble ro b=true:=by rw[bA2];exact hb
    rw[this] at h5;cases h5
   ·exact h5
  rcases bX5.1 h with h|h
  ·cases h
   refine ⟨h3,hp,hq,fun i' hi=>?_,fun j' hj=>?_⟩
   ·rcases bX5.1 hi with hi|hi
    ·cases hi;rfl
    ·exact (BH h1 i' hi).elim
   ·rcases bX5.1 hj with hj|hj
    ·cases hj;rfl
    ·exact (uB h2 j' hj).elim
  ·obtain ⟨q1,q2,q3,q4,q5⟩:=U7 h6 i j h
   refine ⟨q1,q2,q3,fun i' hi=>?_,fun j' hj=>?_⟩
   ·rcases bX5.1 hi with hi|hi
    ·cases hi;exact (BH h1 i h).elim
    ·exact q4 i' hi
   ·rcases bX5.1 hj with hj|hj
    ·cases hj;exact (uB h2 j h).elim
    ·exact q5 j' hj
theorem PI:∀ {r:List (Nat × Nat)} {i j:Nat},j7 r i=some j->(i,j) ∈ r
 | [],i,j,h=>by cases h
 |(a,b)::r,i,j,h=>by
  rw[n5] at h
  split at h
  ·rename_i e;cases h;subst e;exact dB6
  ·exact cR3 _ (PI h)
mutual
theorem ED {ρ:List (Nat × Nat)} {w w':VW} (h1:w'.ld=w.ld) (h2:w'.F=w.F) (h3:∀ i j,j7 ρ i=some j->j<w'.nx/\∀ b,w'.μ j=some b->w.μ i=some b):∀ {v:V} {vI:Value},f9 w v vI->f9 w' (Z1 ρ v) vI
 | .sc x,vI,h=>by simp only[Z1,f9] at h ⊢;exact h
 | .sl s n l,vI,h=>by simp only[Z1,f9] at h ⊢;exact h.sw h1 h2
 | .slk s n c l,vI,h=>by
  simp only[Z1,f9] at h ⊢
  refine ⟨h.1,h.2.1,h.2.2.imp ?_ id⟩
  rintro ⟨a,e,i,r⟩
  exact ⟨a,e,lB h2 i,r.sw h1 h2⟩
 | .dp l o,vI,h=>by
  simp only[Z1,f9] at h ⊢
  obtain ⟨a,e,i,r⟩:=h
  exact ⟨a,e,lB h2 i,r.sw h1 h2⟩
 | .ref o i n c,vI,h=>by
  simp only[Z1]
  cases ho:j7 ρ o with
  |none=>simp only[f9]
  |some j=>
   simp only[f9] at h ⊢
   obtain ⟨q1,q2,b',e,q3⟩:=h
   exact ⟨(h3 o j ho).1,q2,b',e,fun b hb=>q3 b ((h3 o j ho).2 b hb)⟩
 | .gr s o n,vI,h=>by
  simp only[Z1]
  cases ho:j7 ρ o with
  |none=>simp only[f9]
  |some j=>
   simp only[f9] at h ⊢
   obtain ⟨q1,q2⟩:=h
   refine ⟨(h3 o j ho).1,q2.imp (And.imp id (Or.imp id (And.imp id ?_))) ?_⟩
   ·rintro ⟨a,c,e,i⟩
    exact ⟨a,c,e,lB h2 i⟩
   ·rintro ⟨hn,b',e,q3⟩
    exact ⟨hn,b',e,fun b hb=>q3 b ((h3 o j ho).2 b hb)⟩
 | .ptr o i,vI,h=>by
  simp only[Z1]
  cases ho:j7 ρ o with
  |none=>simp only[f9]
  |some j=>
   simp only[f9] at h ⊢
   obtain ⟨q1,b',e,q3⟩:=h
   exact ⟨(h3 o j ho).1,b',e,fun b hb=>q3 b ((h3 o j ho).2 b hb)⟩
 | .agg l,vI,h=>by
  simp only[Z1,f9] at h ⊢
  obtain ⟨vs,e,h⟩:=h
  exact ⟨vs,e,cV h1 h2 h3 h⟩
 | .tup l,vI,h=>by
  simp only[Z1,f9] at h ⊢
  obtain ⟨vs,e,h⟩:=h
  exact ⟨vs,e,cV h1 h2 h3 h⟩
 | .fn f a b,vI,h=>by
  simp only[Z1,f9] at h ⊢
  obtain ⟨as,bs,e,q1,q2⟩:=h
  exact ⟨as,bs,e,cV h1 h2 h3 q1,cV h1 h2 h3 q2⟩
 | .ifc t u,vI,h=>by
  simp only[Z1,f9] at h ⊢
  obtain ⟨x,e,h⟩:=h
  exact ⟨x,e,ED h1 h2 h3 h⟩
 | .dead,vI,h=>by simp only[Z1,f9]
 | .tok o,vI,h=>by
  simp only[Z1]
  cases ho:j7 ρ o with
  |none=>simp only[f9]
  |some j=>
   simp only[f9] at h ⊢
   obtain ⟨q1,b',e,q3⟩:=h
   exact ⟨(h3 o j ho).1,b',e,fun b hb=>q3 b ((h3 o j ho).2 b hb)⟩
theorem cV {ρ:List (Nat × Nat)} {w w':VW} (h1:w'.ld=w.ld) (h2:w'.F=w.F) (h3:∀ i j,j7 ρ i=some j->j<w'.nx/\∀ b,w'.μ j=some b->w.μ i=some b):∀ {l:List V} {vs:List Value},i6 w l vs->i6 w' (dW ρ l) vs
 | [],vs,h=>by simp only[dW,i6] at h ⊢;exact h
 |v::r,vs,h=>by
  simp only[dW,i6] at h ⊢
  obtain ⟨u,us,e,q1,q2⟩:=h
  exact ⟨u,us,e,ED h1 h2 h3 q1,cV h1 h2 h3 q2⟩
end
theorem gA {ρ:List (Nat × Nat)} {H:E9}:∀ (r:List (Nat × Nat)) (j:Nat) (o:Obj),j7 (uG ρ H r) j=some o->∃ i ob,(i,j) ∈ r/\j7 H i=some ob/\o=UZ ρ ob
 | [],j,o,h=>by cases h
 |(a,b)::r,j,o,h=>by
  simp only[uG] at h
  split at h
  ·rename_i ob ha
   rw[n5] at h
   split at h
   ·rename_i e;cases h;subst e;exact ⟨a,ob,dB6,ha,rfl⟩
   ·obtain ⟨i,ob',h1,h2⟩:=gA r j o h
    exact ⟨i,ob',cR3 _ h1,h2⟩
  ·obtain ⟨i,ob',h1,h2⟩:=gA r j o h
   exact ⟨i,ob',cR3 _ h1,h2⟩
theorem UY {ρ:List (Nat × Nat)} {H:E9}:∀ (r:List (Nat × Nat)) (i j:Nat) (ob:Obj),(i,j) ∈ r->(∀ i',(i',j) ∈ r->i'=i)->j7 H i=some ob->j7 (uG ρ H r) j=some (UZ ρ ob)
 | [],i,j,ob,h,_,_=>by cases h
 |(a,b)::r,i,j,ob,h,hu,ho=>by
  simp only[uG]
  by_cases hb:b=j
  ·subst hb
   have:=hu a dB6
   subst this
   rw[ho]
   simp only
   rw[n5,aO9 rfl]
  ·have hr:(i,j) ∈ r:=by
    rcases bX5.1 h with h|h
    ·cases h;exact absurd rfl hb
    ·exact h
   have ih:=UY (ρ:=ρ) r i j ob hr (fun i' hi=>hu i' (cR3 _ hi)) ho
   split
   ·rw[n5,aQ4 (fun e=>hb e.symm)];exact ih
   ·exact ih
theorem JB (ρ:List (Nat × Nat)) (o:Obj):(UZ ρ o).none=o.none:=by
 cases o with
 |gro t e z l=>cases l<;>rfl
 |_=>rfl
theorem aN6 (ρ:List (Nat × Nat)) (o:Obj):(UZ ρ o).fz=o.fz:=by cases o<;>rfl
theorem cE4 (ρ:List (Nat × Nat)) (o:Obj):(UZ ρ o).ok=o.ok:=by cases o<;>rfl
theorem UX (ρ:List (Nat × Nat)):∀ (fr:D0) (t:Nat),j7 (xE ρ fr) t=(j7 fr t).map (Z1 ρ)
 | [],t=>rfl
 |(j,v)::r,t=>by
  simp only[xE]
  rw[n5,n5,UX ρ r t]
  split<;>rfl
theorem EJ (ρ:List (Nat × Nat)) (k:Nat) {fr:D0} (hb:C.w0.nx<=k) (hk:IT C.w0.nx st.ro k ρ=true):K7 C fr st (xE ρ fr) ⟨uG ρ st.own ρ,k,st.ro⟩:=by
 rintro s frI ⟨μ,F,h,hf,h3,h4,h5⟩
 let back:Nat->Option Nat:=fun j=>(ρ.find? fun p=>Nat.beq p.2 j).map (·.1)
 let μ':Nat->Option Nat:=fun j=>(back j).bind μ
 have he:∀ j i,back j=some i->(i,j) ∈ ρ:=fun j i e=>by
  simp only[back,aG4] at e
  obtain ⟨⟨a,b⟩,e1,rfl⟩:=e
  have:=List.find?_some e1
  have hb:=j9.1 this
  simp only at hb
  subst hb
  exact List.mem_of_find?_eq_some e1
 have ht:∀ i j,(i,j) ∈ ρ->back j=some i:=fun i j hm=>by
  cases e:back j with
  |none=>
   simp only[back,Option.map_eq_none_iff,List.find?_eq_none] at e
   exact absurd (j9.2 rfl) (e (i,j) hm)
  |some i'=>rw[((U7 hk i j hm).2.2.2.1 i' (he j i' e))]
 have h7:∀ j b,μ' j=some b->∃ i,(i,j) ∈ ρ/\μ i=some b:=fun j b e=>by
  simp only[μ',aG3] at e
  obtain ⟨i,e1,e2⟩:=e
  exact ⟨i,he j i e1,e2⟩
 have h8:∀ i j,(i,j) ∈ ρ->μ' j=μ i:=fun i j hm=>by simp only[μ'];rw[ht i j hm];rfl
 have i7:∀ i j,j7 ρ i=some j->(i,j) ∈ ρ:=fun i j e=>PI e
 have hg:∀ i j,j7 ρ i=some j->j<k/\∀ b,μ' j=some b->μ i=some b:=fun i j e=>⟨(U7 hk i j (i7 i j e)).1,fun b hb=>by rw[<- h8 i j (i7 i j e)];exact hb⟩
 let w':VW:=⟨p9 C.E s.heap,F,μ',k⟩
 have hw:∀ {v:V} {vI:Value},f9 (x8 C st s μ F) v vI->f9 w' (Z1 ρ v) vI:=fun hv=>ED (w:=x8 C st s μ F) (w':=w') rfl rfl hg hv
 have hx:∀ {l:List V} {vs:List Value},i6 (x8 C st s μ F) l vs->i6 w' (dW ρ l) vs:=fun hv=>cV (w:=x8 C st s μ F) (w':=w') rfl rfl hg hv
 have hD:∀ {l:List D} {vs:List Value},m6 (x8 C st s μ F) l vs->m6 w' l vs:=fun {l vs} hl=>m6.of hl.length fun i d v q1 q2=>by
  obtain ⟨v',a,b⟩:=hl.get i d q1
  rw[q2] at a;cases a
  exact A1.sw (w:=x8 C st s μ F) (w':=w') rfl rfl b
 refine ⟨μ',F,⟨?_,?_,?_,?_,?_,h.lt,h.cl,h.un,h.n0,?_,h.hb,h.pr,?_⟩,?_,⟨h3.ld,h3.F,hb,?_⟩,h4,h5⟩
 ·intro j o e hn
  obtain ⟨i,ob,hm,ho,rfl⟩:=gA ρ j o e
  rw[JB] at hn
  obtain ⟨b,blk,m1,m2,m3⟩:=h.obj i ob ho hn
  refine ⟨b,blk,by rw[h8 i j hm];exact m1,m2,?_⟩
  cases ob with
  |box t e' l=>exact ⟨m3.1,m3.2.1,m3.2.2.1,hx m3.2.2.2⟩
  |row t e' g z l=>exact ⟨m3.1,m3.2.1,m3.2.2.1,hD m3.2.2.2⟩
  |gro t e' z l=>exact ⟨m3.1,m3.2.1,m3.2.2.1,hD m3.2.2.2⟩
 ·intro j o b e e2 hz
  obtain ⟨i,ob,hm,ho,rfl⟩:=gA ρ j o e
  rw[aN6] at hz
  rw[h8 i j hm] at e2
  obtain ⟨q1,q2⟩:=h.wr i ob b ho e2 hz
  exact ⟨q1,fun h9=>q2 ((U7 hk i j hm).2.2.1 h9)⟩
 ·intro j o b e e2 hz
  obtain ⟨i,ob,hm,ho,rfl⟩:=gA ρ j o e
  rw[aN6] at hz
  rw[h8 i j hm] at e2
  exact h.fz i ob b ho e2 hz
 ·intro j j' b e e'
  obtain ⟨i,hm,e1⟩:=h7 j b e
  obtain ⟨i',hy,e1'⟩:=h7 j' b e'
  have:=h.inj i i' b e1 e1'
  subst this
  exact ((U7 hk i j hm).2.2.2.2 j' hy).symm
 ·intro j b e
  obtain ⟨i,hm,e1⟩:=h7 j b e
  obtain ⟨d1,d2,ob,d3,d4⟩:=h.dom i b e1
  exact ⟨d1,(U7 hk i j hm).1,_,UY ρ i j ob hm (U7 hk i j hm).2.2.2.1 d3,by rw[JB];exact d4⟩
 ·intro j o e
  obtain ⟨i,ob,hm,ho,rfl⟩:=gA ρ j o e
  exact ⟨(U7 hk i j hm).1,by rw[cE4];exact (h.own i ob ho).2⟩
 ·intro j b e h9
  obtain ⟨i,hm,e1⟩:=h7 j b e
  exact h.pb i b e1 ((U7 hk i j hm).2.2.1 h9)
 ·intro t v e
  rw[UX,aG4] at e
  obtain ⟨u,e1,rfl⟩:=e
  obtain ⟨vI,a,b⟩:=hf t u e1
  exact ⟨vI,a,hw b⟩
 ·intro j b hj e
  obtain ⟨i,hm,e1⟩:=h7 j b e
  have g0:i=j:=by
   rcases (U7 hk i j hm).2.1 with h'|h'
   ·omega
   ·exact h'
  subst g0
  exact h3.μ i b hj e1
theorem K7.trans {fr fr' fr2:D0} {st' st2:n9} (h:K7 C fr st fr' st') (k:K7 C fr' st' fr2 st2):K7 C fr st fr2 st2:=fun s frI hr=>k s frI (h s frI hr)
theorem XZ (fr:D0) (t e:Nat):K7 C fr st fr ⟨(st.next,.gro t e false [])::st.own,st.next+1,st.ro⟩:=by
 rintro s frI ⟨μ,F,h,hf,h3,h4,h5⟩
 have hc:VW.le (x8 C st s μ F) (x8 C ⟨(st.next,.gro t e false [])::st.own,st.next+1,st.ro⟩ s μ F):=⟨fun _ _=>rfl,fun _ h=>h,Nat.le_succ _,fun _ _ _ e=>e⟩
 have h0:∀ i ob,j7 ((st.next,Obj.gro t e false [])::st.own) i=some ob->(i=st.next/\ob= .gro t e false [])\/(i ≠ st.next/\j7 st.own i=some ob):=fun i ob e=>by
  rw[n5] at e
  split at e
  ·rename_i hi;cases e;exact .inl ⟨hi,rfl⟩
  ·rename_i hi;exact .inr ⟨hi,e⟩
 have hd:∀ i b,μ i=some b->i ≠ st.next:=fun i b e=>Nat.ne_of_lt (h.dom i b e).2.1
 refine ⟨μ,F,⟨?_,?_,?_,h.inj,?_,h.lt,h.cl,h.un,h.n0,?_,h.hb,h.pr,h.pb⟩,hf.mono hc,h3.trans hc,h4,h5⟩
 ·intro i ob e hn
  rcases h0 i ob e with ⟨rfl,rfl⟩|⟨hi,e1⟩
  ·cases hn
  ·obtain ⟨b,blk,m1,m2,m3⟩:=h.obj i ob e1 hn
   exact ⟨b,blk,m1,m2,m3.mono hc⟩
 ·intro i ob b e e2 hz
  rcases h0 i ob e with ⟨rfl,rfl⟩|⟨hi,e1⟩
  ·exact absurd rfl (hd _ b e2)
  ·exact h.wr i ob b e1 e2 hz
 ·intro i ob b e e2 hz
  rcases h0 i ob e with ⟨rfl,rfl⟩|⟨hi,e1⟩
  ·exact absurd rfl (hd _ b e2)
  ·exact h.fz i ob b e1 e2 hz
 ·intro i b e
  obtain ⟨d1,d2,ob,d3,d4⟩:=h.dom i b e
  exact ⟨d1,by simp only;omega,ob,by rw[n5,aQ4 (hd i b e)];exact d3,d4⟩
 ·intro i ob e
  rcases h0 i ob e with ⟨rfl,rfl⟩|⟨hi,e1⟩
  ·exact ⟨by simp,rfl⟩
  ·exact ⟨by have:=(h.own i ob e1).1;simp only;omega,(h.own i ob e1).2⟩
def eB (C:C8) (st:n9) (v v':V):Prop:=∀ s μ F vI,SR C st s μ F->f9 (x8 C st s μ F) v vI->f9 (x8 C st s μ F) v' vI
theorem gY {fr:D0} {t:Nat} {v v':V} (h:j7 fr t=some v) (hv:eB C st v v'):K7 C fr st (oQ fr t v') st:=by
 rintro s frI ⟨μ,F,h1,hf,h3⟩
 refine ⟨μ,F,h1,fun i u e=>?_,h3⟩
 rw[mG] at e
 split at e
 ·rename_i hi
  cases e
  subst hi
  obtain ⟨vI,a,b⟩:=hf _ v h
  exact ⟨vI,a,hv s μ F vI h1 b⟩
 ·exact hf i u e
theorem VP {o t e:Nat} {z:Bool} (h:o<st.next):eB C st (.sc (.slice none 0 0)) (.gr 2 o 0):=fun s μ F vI hs hv=>by
 rw[hv.scv]
 simp only[f9]
 exact ⟨h,.inl ⟨by trivial,.inl (by trivial)⟩⟩
theorem uY {fr:D0} {o t e k:Nat} {l:List V} {v v':V} (h:j7 st.own o=some (.box t e l)) (hk:l[k]? =some v) (hv:eB C st v v'):K7 C fr st fr ⟨A3 st.own o (.box t e (l.set k v')),st.next,st.ro⟩:=by
 rintro s frI ⟨μ,F,h1,hf,h3⟩
 have h0:∀ i ob,j7 (A3 st.own o (.box t e (l.set k v'))) i=some ob->(i=o/\ob= .box t e (l.set k v'))\/(i ≠ o/\j7 st.own i=some ob):=fun i ob e'=>by
  rw[H7 _ _ _ _ _ h] at e'
  split at e'
  ·rename_i hi;cases e';exact .inl ⟨hi,rfl⟩
  ·rename_i hi;exact .inr ⟨hi,e'⟩
 refine ⟨μ,F,⟨?_,?_,?_,h1.inj,?_,h1.lt,h1.cl,h1.un,h1.n0,?_,h1.hb,h1.pr,h1.pb⟩,hf,h3⟩
 ·intro i ob e' hn
  rcases h0 i ob e' with ⟨rfl,rfl⟩|⟨hi,e1⟩
  ·obtain ⟨b,blk,m1,m2,m3⟩:=h1.obj i _ h rfl
   refine ⟨b,blk,m1,m2,m3.1,m3.2.1,m3.2.2.1,?_⟩
   refine i6.of (by rw[m3.2.2.2.length];simp) fun j d u q1 q2=>?_
   rw[List.getElem?_set] at q1
   split at q1
   ·rename_i hj
    split at q1
    ·cases q1
     subst hj
     obtain ⟨u',a,b'⟩:=m3.2.2.2.get _ v hk
     rw[q2] at a;cases a
     exact hv s μ F u h1 b'
    ·cases q1
   ·obtain ⟨u',a,b'⟩:=m3.2.2.2.get j d q1
    rw[q2] at a;cases a
    exact b'
  ·exact h1.obj i ob e1 hn
 ·intro i ob b e' e2 hz
  rcases h0 i ob e' with ⟨rfl,rfl⟩|⟨hi,e1⟩
  ·exact h1.wr i _ b h e2 rfl
  ·exact h1.wr i ob b e1 e2 hz
 ·intro i ob b e' e2 hz
  rcases h0 i ob e' with ⟨rfl,rfl⟩|⟨hi,e1⟩
  ·cases hz
  ·exact h1.fz i ob b e1 e2 hz
 ·intro i b e'
  obtain ⟨d1,d2,ob,d3,d4⟩:=h1.dom i b e'
  by_cases hi:i=o
  ·subst hi;exact ⟨d1,d2,_,by simp only;rw[H7 _ _ _ _ _ h,aO9 rfl],rfl⟩
  ·exact ⟨d1,d2,ob,by simp only;rw[H7 _ _ _ _ _ h,aQ4 hi];exact d3,d4⟩
 ·intro i ob e'
  rcases h0 i ob e' with ⟨rfl,rfl⟩|⟨hi,e1⟩
  ·exact ⟨(h1.own i _ h).1,rfl⟩
  ·exact h1.own i ob e1
theorem uZ {fr:D0} {t:Nat} {v v':V} (h:j7 fr t=some v) (hs:D1 st.own v=some v') (hh:D4 st.ro st.own (fA v)=true):K7 C fr st (oQ fr t v') ⟨D7 (fA v) st.own,st.next,st.ro⟩:=by
 rintro s frI ⟨μ,F,h1,hf,h3,h4,h5⟩
 obtain ⟨f1,f2⟩:=h1.freeze hh
 refine ⟨μ,_,f1,fun i u e=>?_,h3.trans f2,h4,fun b hb=>?_⟩
 ·rw[mG] at e
  split at e
  ·rename_i hi
   cases e
   subst hi
   obtain ⟨vI,a,b⟩:=hf _ v h
   refine ⟨vI,a,?_⟩
   have:=xV (w2:=YG C.E s.heap (cB μ F (fA v))) h1.hr f2 rfl rfl b hs (fun o ho b e=> .inr ⟨o,ho,e⟩) (fun o ho b e k sp blk hb=>fE (E:=C.E) hb)
   refine f9.mono (w:=YG C.E s.heap (cB μ F (fA v))) (w':=x8 C ⟨D7 (fA v) st.own,st.next,st.ro⟩ s μ (cB μ F (fA v))) ⟨fun _ _=>rfl,fun _ h=>h,bA5 _,fun o b ho e=>?_⟩ this
   exact absurd ho (dM7 _)
  ·obtain ⟨vI,a,b⟩:=hf i u e
   exact ⟨vI,a,f9.mono f2 b⟩
 ·rcases h1.fin_ge hh hb with hb|hb
  ·exact h5 b hb
  ·exact .inr (by rw[<- h4];exact hb)
end
def gK (C:C8):List KF->Ex->D0->n9->B9->Prop
 | [],ex,fr,st,P=>P ex fr st
 | .seq b::K,.normal,fr,st,P=>OX C b fr st fun ex fr st=>gK C K ex fr st P
 | .seq _::K,ex,fr,st,P=>gK C K ex fr st P
 | .block id::K,.exit i,fr,st,P=>if i=id then gK C K .normal fr st P else gK C K (.exit i) fr st P
 | .block _::K,ex,fr,st,P=>gK C K ex fr st P
def gC (C:C8) (c:AC) (K:List KF) (fr:D0) (st:n9) (P:B9):Prop:=OX C c fr st fun ex fr st=>gK C K ex fr st P
def gO (C:C8) (l:List l5) (ks:List Nat) (K:List KF) (fr:D0) (st:n9) (P:B9):Prop:=wpO C l fr st fun fr st=>gK C K .normal (A8 ks fr) st P
def gS (C:C8) (r:Option (V × n9)) (d:Option Nat) (l:List l5) (ks:List Nat) (K:List KF) (fr:D0) (P:B9):Prop:=
 match r with|some (v,st')=>gO C l ks K (u7 fr d v) st' P|none=>False
def gV (C:C8) (r:VO) (o:M8) (st:n9) (d:Option Nat) (l:List l5) (ks:List Nat) (K:List KF) (fr:D0) (P:B9):Prop:=
 match r with
 |some (v,ob,fz)=>gS C (if D4 st.ro st.own fz then some (v,st.push ob fz) else none) d l ks K fr P
 |none=>gS C (R8 fr st o) d l ks K fr P
def wA (C:C8) (f:FuncId) (xs:Option (List V)) (st:n9) (d:Option Nat) (l:List l5) (ks:List Nat) (K:List KF) (fr:D0) (P:B9):Prop:=
 match xs with|some vs=>T2 C f vs st fun v st'=>gO C l ks K (u7 fr d v) st' P|none=>False
def bI4 (C:C8) (x:Option V) (xs:Option (List V)) (st:n9) (d:Option Nat) (l:List l5) (ks:List Nat) (K:List KF) (fr:D0) (P:B9):Prop:=
 match x,xs with
 |some g,some vs=>(match Z2 g vs with|some (f,ws)=>wA C f (some ws) st d l ks K fr P|none=>LV C g vs st fun v st'=>gO C l ks K (u7 fr d v) st' P)
 |_,_=>False
def HF (C:C8) (ms:List (TypeId × FuncId)) (x:Option V) (xs:Option (List V)) (st:n9) (d:Option Nat) (l:List l5) (ks:List Nat) (K:List KF) (fr:D0) (P:B9):Prop:=
 match x,xs with
 |some g,some vs=>(match iM ms g vs with|some (f,ws)=>wA C f (some ws) st d l ks K fr P|none=>False)
 |_,_=>False
def gG (C:C8) (v:Option V) (want:Bool) (d:Option Nat) (o:M8) (l:List l5) (ks:List Nat) (K:List KF) (fr:D0) (st:n9) (P:B9):Prop:=
 match v with
 |some (.sc (.bool b))=>if b==want then gO C (⟨d,none,o⟩::l) ks K fr st P else gO C l ks K (u7 fr d (.tup [])) st P
 |some (.tup _)=>gO C l ks K (u7 fr d (.tup [])) st P
 |_=>False
def gI (C:C8) (v:Option V) (t e:AC) (K:List KF) (fr:D0) (st:n9) (P:B9):Prop:=
 match v with
 |some (.sc (.bool b))=>if b then gC C t K fr st P else gC C e K fr st P
 |_=>False
def gL (C:C8) (ks:List Nat) (b:AC) (K:List KF) (fr:D0) (st:n9) (P:B9):Prop:=DV C (C7 C.E (.loop ks b)) fr st fun ex fr st=>gK C K ex fr st P
def gP (C:C8) (l:List l5) (h0:List (List Bool)) (vds:List (Nat × Nat)) (tail:List l5) (ks:List Nat) (K:List KF) (fr:D0) (st:n9) (P:B9):Prop:=
 wpP C l h0 vds fr st fun fr st=>gO C tail ks K fr st P
def gT (C:C8) (l:List l5) (tail:List l5) (ks:List Nat) (K:List KF) (fr:D0) (st:n9) (P:B9):Prop:=wpT C l fr st fun fr st=>gO C tail ks K fr st P
def gPV (C:C8) (r:VO) (d:Option Nat) (l:List l5) (h0:List (List Bool)) (vds:List (Nat × Nat)) (tail:List l5) (ks:List Nat) (K:List KF) (fr:D0) (st:n9) (P:B9):Prop:=
 match r with
 |some (v,ob,fz)=>if fz.isEmpty then gP C l h0 ((st.next,ob.toList.length)::vds) tail ks K (u7 fr d v) (st.pushL ob.toList) P else False
 |none=>False
def gPC (C:C8) (f:FuncId) (xs:Option (List V)) (H:E9) (L:Bool) (h:List Bool) (d:Option Nat) (l:List l5) (h0:List (List Bool)) (vds:List (Nat × Nat)) (tail:List l5) (ks:List Nat) (K:List KF) (fr:D0) (st:n9) (P:B9):Prop:=
 match xs with|some vs=>vB C f vs H st.next (fun v obs=>gP C l h0 ((st.next,obs.length)::vds) tail ks K (u7 fr d v) (st.pushL obs) P) (L=true/\h= []/\bA9 C f vs st fun v=>gT C l tail ks K (u7 fr d v) st P)|none=>False
def aI1 (C:C8) (x:Option V) (xs:Option (List V)) (H:E9) (d:Option Nat) (l:List l5) (h0:List (List Bool)) (vds:List (Nat × Nat)) (tail:List l5) (ks:List Nat) (K:List KF) (fr:D0) (st:n9) (P:B9):Prop:=
 match x,xs with
 |some g,some vs=>(match Z2 g vs with|some (f,ws)=>gPC C f (some ws) H false [] d l h0 vds tail ks K fr st P|none=>False)
 |_,_=>False
def gPG (C:C8) (v:Option V) (want:Bool) (t:Nat) (d:Option Nat) (o:M8) (l:List l5) (h0:List (List Bool)) (vds:List (Nat × Nat)) (tail:List l5) (ks:List Nat) (K:List KF) (fr:D0) (st:n9) (P:B9):Prop:=
 match v with
 |some (.sc (.bool b))=>if b==want then (OY C (A8 (c7 (c8 o)++ [t]) fr) (Q8 st.own vds (h0.headD [])) st o (fun v obs=>gP C l h0.tail ((st.next,obs.length)::vds) tail ks K (u7 fr d v) (st.pushL obs) P))\/(h0.headD []= []/\wpL C (A8 (c7 (c8 o)++ [t]) fr) st o fun v=>gT C l tail ks K (u7 fr d v) st P)
   else gP C l h0.tail ((st.next,0)::vds) tail ks K (u7 fr d (.tup [])) st P
 |some (.tup _)=>gP C l h0.tail ((st.next,0)::vds) tail ks K (u7 fr d (.tup [])) st P
 |_=>False
def rN:M8->Bool
 | .callF _ _=>false
 | .callV _ _=>false
 | .callI _ _ _=>false
 |_=>true
section
variable {C:C8} {K:List KF} {fr:D0} {st:n9} {P:B9}
theorem bJ0 (ex:Ex):gK C [] ex fr st P=P ex fr st:=(rfl)
theorem bJ1 (b:AC):gK C (.seq b::K) .normal fr st P=gC C b K fr st P:=(rfl)
theorem wB (b:AC) (i:Nat):gK C (.seq b::K) (.exit i) fr st P=gK C K (.exit i) fr st P:=(rfl)
theorem AG (b:AC):gK C (.seq b::K) .ret fr st P=gK C K .ret fr st P:=(rfl)
theorem jQ (i:Nat):gK C (.block i::K) .normal fr st P=gK C K .normal fr st P:=(rfl)
theorem oA (i j:Nat):gK C (.block i::K) (.exit j) fr st P=if j=i then gK C K .normal fr st P else gK C K (.exit j) fr st P:=(rfl)
theorem qV (i:Nat):gK C (.block i::K) .ret fr st P=gK C K .ret fr st P:=(rfl)
theorem aH3:gC C .skip K fr st P=gK C K .normal fr st P:=(rfl)
theorem bI2:gC C .ret K fr st P=gK C K .ret fr st P:=(rfl)
theorem aH1 (i:Nat):gC C (.exit i) K fr st P=gK C K (.exit i) fr st P:=(rfl)
theorem bI3 (a b:AC):gC C (.seq a b) K fr st P=gC C a (.seq b::K) fr st P:=by
 unfold gC
 simp only[OX]
 congr 1
 funext ex f t
 cases ex<;>rfl
theorem RV (i:Nat) (a:AC):gC C (.block i a) K fr st P=gC C a (.block i::K) fr st P:=by
 unfold gC
 simp only[OX]
 congr 1
 funext ex f t
 cases ex<;>rfl
theorem bI1 (l:List l5) (ks:List Nat):gC C (.ops l ks) K fr st P=gO C l ks K fr st P:=(rfl)
theorem aG9 (c:Operand) (t e:AC):gC C (.cond c t e) K fr st P=gI C (s5 fr c) t e K fr st P:=by
 unfold gC gI
 simp only[OX]
 rfl
theorem MT (t e:AC):gI C (some (.sc (.bool true))) t e K fr st P=gC C t K fr st P:=(rfl)
theorem AF (t e:AC):gI C (some (.sc (.bool false))) t e K fr st P=gC C e K fr st P:=(rfl)
theorem aH2 (ks:List Nat) (b:AC):gC C (.loop ks b) K fr st P=gL C ks b K fr st P:=(rfl)
theorem aH0 (pre tail:List l5) (h0:List (List Bool)) (ks:List Nat):gC C (.draw pre tail h0 ks) K fr st P=gP C pre h0 [] tail ks K fr st P:=(rfl)
theorem bJ2 (ks:List Nat):gO C [] ks K fr st P=gK C K .normal (A8 ks fr) st P:=(rfl)
theorem SB (d:Option Nat) (f:FuncId) (xs:List Operand) (l:List l5) (ks:List Nat):gO C (⟨d,none,.callF f xs⟩::l) ks K fr st P=wA C f (V3 fr xs) st d l ks K fr P:=(rfl)
theorem SD (d:Option Nat) (x:Operand) (xs:List Operand) (l:List l5) (ks:List Nat):gO C (⟨d,none,.callV x xs⟩::l) ks K fr st P=bI4 C (s5 fr x) (V3 fr xs) st d l ks K fr P:=by
 unfold gO bI4
 simp only[wpO,pU]
 cases s5 fr x with
 |none=>rfl
 |some g=>cases V3 fr xs with
  |none=>rfl
  |some vs=>simp only;cases Z2 g vs<;>rfl
theorem SC (d:Option Nat) (ms:List (TypeId × FuncId)) (x:Operand) (xs:List Operand) (l:List l5) (ks:List Nat):gO C (⟨d,none,.callI ms x xs⟩::l) ks K fr st P=HF C ms (s5 fr x) (V3 fr xs) st d l ks K fr P:=by
 unfold gO HF
 simp only[wpO,pU]
 cases s5 fr x with
 |none=>rfl
 |some g=>cases V3 fr xs with
  |none=>rfl
  |some vs=>simp only;cases iM ms g vs<;>rfl
theorem aI0 (d:Option Nat) (o:M8) (ho:rN o=true) (l:List l5) (ks:List Nat):gO C (⟨d,none,o⟩::l) ks K fr st P=gV C (j6 C.E.old fr st.own st.next o) o st d l ks K fr P:=by
 unfold gO gV gS
 simp only[wpO]
 have:∀ Q,pU C fr st o Q=match XS C.E.old fr st o with|some (v,st')=>Q v st'|none=>False:=by
  intro Q
  cases o<;>first|rfl|cases ho
 rw[this]
 unfold XS
 cases j6 C.E.old fr st.own st.next o with
 |none=>rfl
 |some r=>
  obtain ⟨v,ob,fz⟩:=r
  rfl
theorem SE (d:Option Nat) (t:Nat) (want:Bool) (o:M8) (l:List l5) (ks:List Nat):gO C (⟨d,some (t,want),o⟩::l) ks K fr st P=gG C (j7 fr t) want d o l ks K fr st P:=(rfl)
theorem bI9 (b:Bool) (d:Option Nat) (o:M8) (l:List l5) (ks:List Nat):gG C (some (.sc (.bool b))) b d o l ks K fr st P=gO C (⟨d,none,o⟩::l) ks K fr st P:=by simp[gG]
theorem cL2 (d:Option Nat) (o:M8) (l:List l5) (ks:List Nat):gG C (some (.sc (.bool true))) false d o l ks K fr st P=gO C l ks K (u7 fr d (.tup [])) st P:=(rfl)
theorem cL1 (d:Option Nat) (o:M8) (l:List l5) (ks:List Nat):gG C (some (.sc (.bool false))) true d o l ks K fr st P=gO C l ks K (u7 fr d (.tup [])) st P:=(rfl)
theorem bI8 (a:List V) (want:Bool) (d:Option Nat) (o:M8) (l:List l5) (ks:List Nat):gG C (some (.tup a)) want d o l ks K fr st P=gO C l ks K (u7 fr d (.tup [])) st P:=(rfl)
theorem aV6 (st:n9):st.push none []=st:=by simp[n9.push,y9]
theorem aJ1 (v:V) (o:M8) (d:Option Nat) (l:List l5) (ks:List Nat):gV C (some (v,none,[])) o st d l ks K fr P=gO C l ks K (u7 fr d v) st P:=by
 unfold gV gS
 simp only[D4,if_true,aV6]
theorem bJ8 (v:V) (ob:Obj) (o:M8) (d:Option Nat) (l:List l5) (ks:List Nat):gV C (some (v,some ob,[])) o st d l ks K fr P=gO C l ks K (u7 fr d v) ⟨(st.next,ob)::st.own,st.next+1,st.ro⟩ P:=by
 unfold gV gS
 simp only[D4,if_true,n9.push,y9]
theorem aI9 (v:V) (ob:Obj) (fz:List Nat) (hf:D4 st.ro st.own fz=true) (o:M8) (d:Option Nat) (l:List l5) (ks:List Nat):gV C (some (v,some ob,fz)) o st d l ks K fr P=gO C l ks K (u7 fr d v) ⟨(st.next,ob)::D7 fz st.own,st.next+1,st.ro⟩ P:=by
 unfold gV gS
 simp only[hf,if_true,n9.push]
theorem aJ0 (o:M8) (d:Option Nat) (l:List l5) (ks:List Nat):gV C none o st d l ks K fr P=gS C (R8 fr st o) d l ks K fr P:=(rfl)
theorem aI8 (v:V) (st':n9) (d:Option Nat) (l:List l5) (ks:List Nat):gS C (some (v,st')) d l ks K fr P=gO C l ks K (u7 fr d v) st' P:=(rfl)
theorem AB (f:FuncId) (vs:List V) (d:Option Nat) (l:List l5) (ks:List Nat):wA C f (some vs) st d l ks K fr P=T2 C f vs st fun v st'=>gO C l ks K (u7 fr d v) st' P:=(rfl)
theorem aH4 (f:FuncId) (a b:List V) (vs:List V) (d:Option Nat) (l:List l5) (ks:List Nat):bI4 C (some (.fn f a b)) (some vs) st d l ks K fr P=wA C f (some (a++vs++b)) st d l ks K fr P:=(rfl)
theorem aH5 (f:FuncId) (a b:Array Value) (vs:List V) (d:Option Nat) (l:List l5) (ks:List Nat):bI4 C (some (.sc (.func (.func f) a b))) (some vs) st d l ks K fr P=wA C f (some vs) st d l ks K fr P:=(rfl)
theorem RW (o:Nat) (vs:List V) (d:Option Nat) (l:List l5) (ks:List Nat):bI4 C (some (.tok o)) (some vs) st d l ks K fr P=aD4 C o vs st (fun v st'=>gO C l ks K (u7 fr d v) st' P):=(rfl)
def gM (C:C8) (f:Option FuncId) (vs:List V) (st:n9) (d:Option Nat) (l:List l5) (ks:List Nat) (K:List KF) (fr:D0) (P:B9):Prop:=match f with|some f=>wA C f (some vs) st d l ks K fr P|none=>False
theorem aH9 (f:FuncId) (vs:List V) (d:Option Nat) (l:List l5) (ks:List Nat):gM C (some f) vs st d l ks K fr P=wA C f (some vs) st d l ks K fr P:=(rfl)
theorem HG (ms:List (TypeId × FuncId)) (t:TypeId) (u:V) (vs:List V) (d:Option Nat) (l:List l5) (ks:List Nat):HF C ms (some (.ifc t u)) (some vs) st d l ks K fr P=gM C (T7 ms t) (u::vs) st d l ks K fr P:=by
 simp only[HF,iM,gM]
 cases T7 ms t<;>rfl
theorem SA (ms:List (TypeId × FuncId)) (t:TypeId) (u:Value) (vs:List V) (d:Option Nat) (l:List l5) (ks:List Nat):HF C ms (some (.sc (.iface t u))) (some vs) st d l ks K fr P=gM C (T7 ms t) (.sc u::vs) st d l ks K fr P:=by
 simp only[HF,iM,gM]
 cases T7 ms t<;>rfl
theorem bJ5 (h0:List (List Bool)) (vds:List (Nat × Nat)) (tail:List l5) (ks:List Nat):gP C [] h0 vds tail ks K fr st P=gO C tail ks K fr st P:=(rfl)
theorem W4 (d:Option Nat) (o:M8):r9 ⟨d,none,o⟩=c7 (c8 o):=by simp[r9]
theorem EM {f:D0} {H:E9} {o:M8} (ho:rN o=true) (Q:V->List Obj->Prop):OY C f H st o Q=match j6 C.E.old f H st.next o with|some (v,ob,fz)=>if fz.isEmpty then Q v ob.toList else False|none=>False:=by
 cases o<;>first|rfl|cases ho
theorem KZ {f:D0} {st:n9} {o:M8} (ho:rN o=true) (Q:V->Prop):wpL C f st o Q=False:=by
 cases o<;>first|rfl|cases ho
theorem aI6 (d:Option Nat) (o:M8) (ho:rN o=true) (l:List l5) (h:List Bool) (h0:List (List Bool)) (vds:List (Nat × Nat)) (tail:List l5) (ks:List Nat):
  gP C (⟨d,none,o⟩::l) (h::h0) vds tail ks K fr st P=gPV C (j6 C.E.old (A8 (c7 (c8 o)) fr) (Q8 st.own vds h) st.next o) d l h0 vds tail ks K fr st P:=by
 unfold gP gPV
 simp only[wpP,List.headD_cons,List.tail_cons,W4]
 rw[EM ho,KZ ho,and_false,or_false]
 cases j6 C.E.old (A8 (c7 (c8 o)) fr) (Q8 st.own vds h) st.next o with
 |none=>rfl
 |some r=>obtain ⟨v,ob,fz⟩:=r;rfl
theorem SK (d:Option Nat) (f:FuncId) (xs:List Operand) (l:List l5) (h:List Bool) (h0:List (List Bool)) (vds:List (Nat × Nat)) (tail:List l5) (ks:List Nat):
  gP C (⟨d,none,.callF f xs⟩::l) (h::h0) vds tail ks K fr st P=gPC C f (V3 (A8 (c7 xs) fr) xs) (Q8 st.own vds h) true h d l h0 vds tail ks K fr st P:=by
 unfold gP gPC
 simp only[wpP,List.headD_cons,List.tail_cons,W4,OY,c8,wpL,vB]
 cases V3 (A8 (c7 xs) fr) xs with
 |none=>simp
 |some vs=>simp only[true_and];rfl
theorem SL (d:Option Nat) (x:Operand) (xs:List Operand) (l:List l5) (h:List Bool) (h0:List (List Bool)) (vds:List (Nat × Nat)) (tail:List l5) (ks:List Nat):
  gP C (⟨d,none,.callV x xs⟩::l) (h::h0) vds tail ks K fr st P=aI1 C (s5 (A8 (c7 (x::xs)) fr) x) (V3 (A8 (c7 (x::xs)) fr) xs) (Q8 st.own vds h) d l h0 vds tail ks K fr st P:=by
 unfold gP aI1 gPC
 simp only[wpP,List.headD_cons,List.tail_cons,W4,OY,c8,wpL,and_false,or_false,vB,cS5,false_and]
 cases s5 (A8 (c7 (x::xs)) fr) x with
 |none=>rfl
 |some g=>cases V3 (A8 (c7 (x::xs)) fr) xs with
  |none=>rfl
  |some vs=>simp only;cases Z2 g vs<;>rfl
theorem SJ (v:V) (d:Option Nat) (l:List l5) (h0:List (List Bool)) (vds:List (Nat × Nat)) (tail:List l5) (ks:List Nat):gPV C (some (v,none,[])) d l h0 vds tail ks K fr st P=gP C l h0 ((st.next,0)::vds) tail ks K (u7 fr d v) st P:=by
 simp[gPV,n9.pushL]
theorem aI5 (v:V) (ob:Obj) (d:Option Nat) (l:List l5) (h0:List (List Bool)) (vds:List (Nat × Nat)) (tail:List l5) (ks:List Nat):gPV C (some (v,some ob,[])) d l h0 vds tail ks K fr st P=gP C l h0 ((st.next,1)::vds) tail ks K (u7 fr d v) ⟨(st.next,ob)::st.own,st.next+1,st.ro⟩ P:=by
 simp[gPV,n9.pushL]
theorem SF (f:FuncId) (vs:List V) (H:E9) (L:Bool) (h:List Bool) (d:Option Nat) (l:List l5) (h0:List (List Bool)) (vds:List (Nat × Nat)) (tail:List l5) (ks:List Nat):gPC C f (some vs) H L h d l h0 vds tail ks K fr st P=vB C f vs H st.next (fun v obs=>gP C l h0 ((st.next,obs.length)::vds) tail ks K (u7 fr d v) (st.pushL obs) P) (L=true/\h= []/\bA9 C f vs st fun v=>gT C l tail ks K (u7 fr d v) st P):=(rfl)
theorem SG (f:FuncId) (a b vs:List V) (H:E9) (d:Option Nat) (l:List l5) (h0:List (List Bool)) (vds:List (Nat × Nat)) (tail:List l5) (ks:List Nat):aI1 C (some (.fn f a b)) (some vs) H d l h0 vds tail ks K fr st P=gPC C f (some (a++vs++b)) H false [] d l h0 vds tail ks K fr st P:=(rfl)
theorem SH (f:FuncId) (a b:Array Value) (vs:List V) (H:E9) (d:Option Nat) (l:List l5) (h0:List (List Bool)) (vds:List (Nat × Nat)) (tail:List l5) (ks:List Nat):aI1 C (some (.sc (.func (.func f) a b))) (some vs) H d l h0 vds tail ks K fr st P=gPC C f (some vs) H false [] d l h0 vds tail ks K fr st P:=(rfl)
theorem SM (d:Option Nat) (t:Nat) (want:Bool) (o:M8) (l:List l5) (h:List Bool) (h0:List (List Bool)) (vds:List (Nat × Nat)) (tail:List l5) (ks:List Nat):
  gP C (⟨d,some (t,want),o⟩::l) (h::h0) vds tail ks K fr st P=gPG C (j7 fr t) want t d o l (h::h0) vds tail ks K fr st P:=(rfl)
theorem aI4 (b:Bool) (t:Nat) (d:Option Nat) (o:M8) (ho:rN o=true) (l:List l5) (h:List Bool) (h0:List (List Bool)) (vds:List (Nat × Nat)) (tail:List l5) (ks:List Nat):
  gPG C (some (.sc (.bool b))) b t d o l (h::h0) vds tail ks K fr st P=gPV C (j6 C.E.old (A8 (c7 (c8 o)++ [t]) fr) (Q8 st.own vds h) st.next o) d l h0 vds tail ks K fr st P:=by
 unfold gPG gPV
 simp only[beq_self_eq_true,if_true,List.headD_cons,List.tail_cons]
 rw[EM ho,KZ ho,and_false,or_false]
theorem SI (b:Bool) (t:Nat) (d:Option Nat) (f:FuncId) (xs:List Operand) (l:List l5) (h:List Bool) (h0:List (List Bool)) (vds:List (Nat × Nat)) (tail:List l5) (ks:List Nat):
  gPG C (some (.sc (.bool b))) b t d (.callF f xs) l (h::h0) vds tail ks K fr st P=gPC C f (V3 (A8 (c7 xs++ [t]) fr) xs) (Q8 st.own vds h) true h d l h0 vds tail ks K fr st P:=by
 unfold gPG gPC
 simp only[beq_self_eq_true,if_true,List.headD_cons,List.tail_cons,OY,c8,wpL,vB]
 cases V3 (A8 (c7 xs++ [t]) fr) xs with
 |none=>simp
 |some vs=>simp only[true_and]
theorem bJ4 (t:Nat) (d:Option Nat) (o:M8) (l:List l5) (h:List Bool) (h0:List (List Bool)) (vds:List (Nat × Nat)) (tail:List l5) (ks:List Nat):gPG C (some (.sc (.bool true))) false t d o l (h::h0) vds tail ks K fr st P=gP C l h0 ((st.next,0)::vds) tail ks K (u7 fr d (.tup [])) st P:=(rfl)
theorem bJ3 (t:Nat) (d:Option Nat) (o:M8) (l:List l5) (h:List Bool) (h0:List (List Bool)) (vds:List (Nat × Nat)) (tail:List l5) (ks:List Nat):gPG C (some (.sc (.bool false))) true t d o l (h::h0) vds tail ks K fr st P=gP C l h0 ((st.next,0)::vds) tail ks K (u7 fr d (.tup [])) st P:=(rfl)
theorem aI3 (a:List V) (want:Bool) (t:Nat) (d:Option Nat) (o:M8) (l:List l5) (h:List Bool) (h0:List (List Bool)) (vds:List (Nat × Nat)) (tail:List l5) (ks:List Nat):gPG C (some (.tup a)) want t d o l (h::h0) vds tail ks K fr st P=gP C l h0 ((st.next,0)::vds) tail ks K (u7 fr d (.tup [])) st P:=(rfl)
def PE (C:C8) (I:Nat->D0->n9->Prop) (m:Nat) (K:List KF) (P:B9):B9
 | .normal,fr,st=>∃ m' fr' st',m'<m/\K7 C fr st fr' st'/\I m' fr' st'
 | .exit i,fr,st=>gK C K (.exit i) fr st P
 | .ret,fr,st=>gK C K .ret fr st P
theorem rG (I m):PE C I m K P .normal fr st=∃ m' fr' st',m'<m/\K7 C fr st fr' st'/\I m' fr' st':=(rfl)
theorem AT (I m) (i:Nat):PE C I m K P (.exit i) fr st=gK C K (.exit i) fr st P:=(rfl)
theorem IK (I m):PE C I m K P .ret fr st=gK C K .ret fr st P:=(rfl)
theorem r5 {ks:List Nat} {b:AC} (I:Nat->D0->n9->Prop) (m:Nat) (hm:m<C.E.rounds) (hi:∃ fr' st',K7 C fr st fr' st'/\I m fr' st') (h2:∀ m fr st,I m fr st->gC C b [] (A8 ks fr) st (PE C I m K P)):gL C ks b K fr st P:=by
 obtain ⟨fr',st',hw,hi⟩:=hi
 refine bG3 I m fr' st' hw hi hm fun m fr st h=>?_
 have h1:=h2 m fr st h
 have:(fun ex fr st=>gK C [] ex fr st (PE C I m K P))=bB0 C I m fun ex fr st=>gK C K ex fr st P:=by
  funext ex f t
  cases ex<;>rfl
 unfold gC at h1
 rw[this] at h1
 exact h1
def bB2 (C:C8) (o:Option (List V)) (st:n9) (v:V) (st1:n9):Prop:=∃ vs,o=some vs/\K7 C [(0,R7 vs)] st [(0,v)] st1
theorem JH (C:C8) (res v st1):fC C res v st1 .ret fr st=bB2 C (O6 C fr st res) st v st1:=(rfl)
theorem rR (C:C8) (res v st1):fC C res v st1 .normal fr st=bB2 C (O6 C fr st res) st v st1:=(rfl)
theorem CI (C:C8) (vs:List V) (st:n9) (v:V) (st1:n9):bB2 C (some vs) st v st1=K7 C [(0,R7 vs)] st [(0,v)] st1:=by
 apply propext
 constructor
 ·rintro ⟨_,h,q⟩;cases h;exact q
 ·exact fun q=>⟨_,rfl,q⟩
end
def scO (x:Option Value):Option V:=x.map .sc
theorem VT (x:Value):scO (some x)=some (.sc x):=(rfl)
theorem cN8 (v:V):vp (some v)=some (v,none,[]):=(rfl)
def aL6:Option V->Option V->Option V->Option V
 |some (.sc (.bool t)),a,b=>if t then a else b
 |_,_,_=>none
theorem aL9 (a b:Option V):aL6 (some (.sc (.bool true))) a b=a:=(rfl)
theorem aL8 (a b:Option V):aL6 (some (.sc (.bool false))) a b=b:=(rfl)
theorem aL7 (t:Bool) (a b:Option V):aL6 (some (.sc (.bool t))) a b=if t then a else b:=(rfl)
def bY8 (nx:Nat) (t:TypeId) (v:V):VO:=(O5 v).bind fun cs=>some (.ptr nx 0,some (.box t 1 cs),[])
theorem PZ (nx:Nat) (t:TypeId) (v:V) (h:dM v=true):bY8 nx t v=some (.ptr nx 0,some (.box t 1 [v]),[]):=by
 cases v<;>first|rfl|cases h
theorem PY (nx:Nat) (t:TypeId) (l:List V) (h:l.all dM=true):bY8 nx t (.agg l)=some (.ptr nx 0,some (.box t 1 l),[]):=by
 simp only[bY8,O5,h,if_true,aI2]
def LQ (z:List Value) (ps:List (Nat × Nat × V)):VO:=if z.all D2 then vp ((bS (scL z) ps).map .agg) else none
theorem FX (z:List Value) (ps:List (Nat × Nat × V)) (h:z.all D2=true):LQ z ps=vp ((bS (scL z) ps).map .agg):=by simp only[LQ,h,if_true]
theorem KR (cs:List V):bS cs []=some cs:=(rfl)
theorem bM {α:Type} (v:α):∀ (cs:List α) (k:Nat),k<cs.length->F8 cs k [v]=some (cs.set k v)
 | [],k,h=>by simp at h
 |c::cs,0,h=>by cases cs<;>simp[F8]
 |c::cs,k+1,h=>by simp[F8,bM v cs k (by simpa using h)]
theorem jK (v:V) (h:dM v=true):O5 v=some [v]:=by cases v<;>first|rfl|cases h
theorem KS (cs:List V) (o:Nat) (v:V) (r:List (Nat × Nat × V)) (hv:dM v=true) (ho:o<cs.length):bS cs ((o,1,v)::r)=bS (cs.set o v) r:=by
 simp only[bS,jK v hv,aI2,dI7]
 rw[aO9 (by simp only[aO3,bA2];exact ⟨rfl,by omega⟩),bM _ _ _ ho]
 rfl
def NU (l:List V) (o:Nat) (m:List V):List V:=l.take o++m++l.drop (o+m.length)
theorem lM {α:Type}:∀ (cs:List α) (k:Nat) (vs:List α),k+vs.length<=cs.length->F8 cs k vs=some (cs.take k++vs++cs.drop (k+vs.length))
 |cs,k,[],h=>by
  have:F8 cs k []=some cs:=by cases cs<;>cases k<;>rfl
  rw[this];simp
 | [],k,v::vs,h=>by simp at h
 |c::cs,0,v::vs,h=>by
  simp only[bK2] at h
  simp only[F8,lM cs 0 vs (by omega),List.take_zero,dJ3,aX8,aJ7,dI5,bK2,cZ9]
  rfl
 |c::cs,k+1,v::vs,h=>by
  simp only[bK2] at h
  simp only[F8,lM cs k (v::vs) (by simp;omega),aX8,aJ7,bK2]
  rw[show k+1+(vs.length+1)=(k+(vs.length+1))+1 by omega]
  rfl
theorem KQ (cs:List V) (o n:Nat) (l:List V) (r:List (Nat × Nat × V)) (hl:l.all dM=true) (hn:Nat.beq l.length n=true) (ho:Nat.ble (o+n) cs.length=true):bS cs ((o,n,.agg l)::r)=bS (NU cs o l) r:=by
 simp only[bS,O5,hl,if_true,aI2]
 have h4:=j9.1 hn
 rw[aO9 (by rw[hn,ho];rfl),lM _ _ _ (by rw[bA2] at ho;omega)]
 rfl
def T8 (nx:Nat) (t:TypeId) (e n:Nat) (z:List Value) (ps:List (Nat × Nat × V)):VO:=
 if (rep z n).all D2 && Nat.blt n A5 then (match kM (pN (rep z n)) ps with
   |some cs=>some (.ref nx 0 n n,some (.row t e false false cs),[])
   |none=>(bS (scL (rep z n)) ps).bind fun cs=>some (.ref nx 0 n n,some (.box t e cs),[])) else none
theorem aS2 (cs:List D) (o:Nat) (v:V) (d:D) (r:List (Nat × Nat × V)) (hv:dM v=true) (hd:WS v=some d) (ho:o<cs.length):kM cs ((o,1,v)::r)=kM (cs.set o d) r:=by
 simp only[kM,jK v hv,aI2,KG,hd,aX8,dI7]
 rw[aO9 (by simp only[aO3,bA2];exact ⟨rfl,by omega⟩),bM _ _ _ ho]
 rfl
theorem cN0 (nx:Nat) (t:TypeId) (e:Nat) (z:List Value):T8 nx t e 0 z []=some (.ref nx 0 0 0,some (.row t e false false []),[]):=(rfl)
theorem VJ (nx:Nat) (t:TypeId) (z:Value) (hz:D2 z=true) (x:Value):T8 nx t 1 1 [z] [(0,1,.sc x)]=some (.ref nx 0 1 1,some (.row t 1 false false [.sc x]),[]):=by
 unfold T8
 rw[aO9 (by simp[rep,hz,A5])]
 rfl
theorem VK (nx:Nat) (t:TypeId) (z:Value) (hz:D2 z=true) (s n:Nat) (l:List D) (h:EQ (.sl s n l)=true):T8 nx t 1 1 [z] [(0,1,.sl s n l)]=some (.ref nx 0 1 1,some (.row t 1 false false [.sl s n l]),[]):=by
 have h1:((rep [z] 1).all D2 && Nat.blt 1 A5)=true:=by simp[rep,hz,A5]
 have h2:kM (pN (rep [z] 1)) [(0,1,V.sl s n l)]=some [.sl s n l]:=by
  rw[aS2 _ _ _ (.sl s n l) _ rfl (by simp only[WS,h,if_true]) (by simp[pN,rep])]
  simp[pN,rep,kM]
 simp only[T8,h1,if_true,h2]
theorem JI (nx:Nat) (t:TypeId) (z:Value) (hz:D2 z=true) (o k n c:Nat):T8 nx t 1 1 [z] [(0,1,.ref o k n c)]=some (.ref nx 0 1 1,some (.box t 1 [.ref o k n c]),[]):=by
 unfold T8
 rw[aO9 (by simp[rep,hz,A5])]
 rfl
theorem VI (nx:Nat) (t:TypeId) (z:Value) (hz:D2 z=true) (s o n:Nat):T8 nx t 1 1 [z] [(0,1,.gr s o n)]=some (.ref nx 0 1 1,some (.box t 1 [.gr s o n]),[]):=by
 unfold T8
 rw[aO9 (by simp[rep,hz,A5])]
 rfl
def dV (old:Nat->Nat->Option Value) (H:E9) (g:Option Nat) (v:Option V):Option V:=v.bind (dU old H g)
def BI (k:Nat) (g:Option Nat):Option Obj->Option V
 |some (.box _ _ l)=>yR l k g
 |some (.row _ _ _ _ l)=>C0 l k g
 |some (.gro _ _ _ l)=>C0 l k g
 |none=>none
theorem EA (old:Nat->Nat->Option Value) (H:E9) (g:Option Nat) (o k:Nat):dV old H g (some (.ptr o k))=BI k g (j7 H o):=by
 simp only[dV,aI2,dU,BI]
 cases j7 H o with
 |none=>rfl
 |some ob=>cases ob<;>rfl
theorem KV (old:Nat->Nat->Option Value) (H:E9) (g:Option Nat) (l:List D) (k:Nat):dV old H g (some (.dp l k))=C0 l k g:=(rfl)
theorem BJ (k:Nat) (g:Option Nat) (t e:Nat) (l:List V):BI k g (some (.box t e l))=yR l k g:=(rfl)
theorem BL (k:Nat) (g:Option Nat) (t e:Nat) (a b:Bool) (l:List D):BI k g (some (.row t e a b l))=C0 l k g:=(rfl)
theorem BK (k:Nat) (g:Option Nat) (t e:Nat) (a:Bool) (l:List D):BI k g (some (.gro t e a l))=C0 l k g:=(rfl)
theorem yS (l:List V) (k:Nat):yR l k none=E1 l k:=(rfl)
theorem yT (l:List V) (k n:Nat):yR l k (some n)=(F5 (l.drop k) n).map .agg:=(rfl)
theorem mR {α:Type} [Inhabited α] (f:α->D) (l:List α) (k:Nat) (hk:k<l.length):C0 (l.map f) k none=some (dv (f l[k]!)):=by
 simp only[C0,y7,dK9,cJ3 hk,aX8]
 rw[bA7 l k hk]
theorem cK8 (x:Value):dv (.sc x)= .sc x:=(rfl)
theorem cK9 (s n:Nat) (l:List D):dv (.sl s n l)= .sl s n l:=(rfl)
theorem tF {α:Type} (f:α->List D) (e:Nat):∀ (l:List α) (k:Nat),(∀ x ∈ l,(f x).length=e)->k<=l.length->(l.flatMap f).drop (k*e)=(l.drop k).flatMap f
 |l,0,_,_=>by simp
 | [],k+1,_,h=>by simp at h
 |x::l,k+1,hf,h=>by
  have hx:=hf x dB6
  rw[dM1,Nat.succ_mul,dL5,<- tF f e l k (fun y hy=>hf y (cR3 _ hy)) (by simpa using h)]
  rw[Nat.add_comm,List.drop_append,dJ8 (by omega),dJ3,show e+k*e - (f x).length=k*e by omega]
theorem iQ {α:Type} [Inhabited α] (f:α->List D) (e:Nat) (l:List α) (hf:∀ x,(f x).length=e) (he:e ≠ 0) (k:Nat) (hk:k<l.length):C0 (l.flatMap f) (k*e) (some e)=some (.agg (sM (f l[k]!))):=by
 have h1:(l.flatMap f).drop (k*e)=f l[k]! ++(l.drop (k+1)).flatMap f:=by
  rw[tF f e l k (fun x _=>hf x) (Nat.le_of_lt hk),dD0 hk,dM1,bA7 l k hk]
 simp only[C0]
 rw[aQ4 (by rw[j9];exact he),h1,Y2 _ _ (by rw[bA4,hf];omega),List.take_left' (hf _)]
 rfl
theorem bH {α:Type} [Inhabited α] (f:α->List D) (e:Nat) (l:List α) (hf:∀ x,(f x).length=e) (k j:Nat) (hk:k<l.length) (hj:j<e):C0 (l.flatMap f) (k*e+j) none=(E1 (f l[k]!) j).map dv:=by
 have h1:(l.flatMap f).drop (k*e)=f l[k]! ++(l.drop (k+1)).flatMap f:=by
  rw[tF f e l k (fun x _=>hf x) (Nat.le_of_lt hk),dD0 hk,dM1,bA7 l k hk]
 simp only[C0,y7]
 congr 1
 have:(l.flatMap f)[k*e+j]? =((l.flatMap f).drop (k*e))[j]? :=by rw[cZ8]
 rw[this,h1,dJ9 (by rw[hf];exact hj)]
def rK:V->Option V
 | .ptr o k=>some (.ptr o k)
 | .dp l o=>some (.dp l o)
 | .fn f a b=>some (.fn f a b)
 | .ifc t v=>some (.ifc t v)
 | .sc (.iface t v)=>some (.sc (.iface t v))
 | .sc (.func (.func f) a b)=>some (.sc (.func (.func f) a b))
 | .sc (.pointer (some a))=>some (.sc (.pointer (some a)))
 |_=>none
theorem wI (o k:Nat):rK (.ptr o k)=some (.ptr o k):=(rfl)
theorem BF (l:List D) (o:Nat):rK (.dp l o)=some (.dp l o):=(rfl)
theorem BG (f:FuncId) (a b:List V):rK (.fn f a b)=some (.fn f a b):=(rfl)
def cP2 (op:BinOp):V->V->Option V
 | .sc a,.sc b=>scO (K8 op a b)
 |_,_=>none
theorem aE1 (op:BinOp) (a b:Value):cP2 op (.sc a) (.sc b)=scO (K8 op a b):=(rfl)
def cA8 (neg:Bool):V->V->Option V
 | .sc (.bool a),.sc (.bool b)=>some (.sc (.bool (if neg then !(a==b) else a==b)))
 |_,_=>none
def tI (k:Nat) (neg:Bool) (a b:V):Option V:=(I1 k a).bind fun p=>(I1 k b).bind fun q=>if p||q then some (.sc (.bool (if neg then !(p && q) else p && q))) else none
theorem dC (neg:Bool) (a:V) (p:Bool) (h:I1 1 a=some p):tI 1 neg a (.sc (.slice none 0 0))=some (.sc (.bool (if neg then !p else p))):=by
 have:I1 1 (.sc (.slice none 0 0))=some true:=(rfl)
 simp only[tI,h,this,aI2,Bool.or_true,if_true,dJ7]
def unV (op:UnOp):V->Option V
 | .sc a=>scO (unA op a)
 |_=>none
theorem bU7 (op:UnOp) (a:Value):unV op (.sc a)=scO (unA op a):=(rfl)
def ZE (k:IntKind):V->Option V
 | .sc (.int _ n)=>some (.sc (.int k (k.wrap n)))
 |_=>none
theorem GK (k j:IntKind) (n:Int):ZE k (.sc (.int j n))=some (.sc (.int k (k.wrap n))):=(rfl)
def bE9:V->Option V
 | .sc (.string s)=>some (.sc (.string s))
 |_=>none
def bC1 (H:E9) (v:V):Option V:=if okV v then (Y1 v).bind fun n=>(M6 H 1 n v).bind fun l=>if !l.2.isEmpty then none else (E4 l.1).bind fun bs=>some (.sc (.string ⟨bs.toArray⟩)) else none
def Y3 (nx:Nat) (t:TypeId) (e b:Nat) (z:List Value):V->V->VO
 | .sc (.int _ l),.sc (.int _ c)=>if 0<=l/\l<=c/\c*b<=s9/\c<=s9/\(rep z c.toNat).all D2=true then some (.ref nx 0 l.toNat c.toNat,some (.row t e false false (pN (rep z c.toNat))),[]) else none
 |_,_=>none
theorem cF4 (z:Value) (n:Nat):pN (rep [z] n)=List.replicate n (.sc z):=by
 rw[OA];simp[pN]
theorem cI (nx:Nat) (t:TypeId) (b:Nat) (z:Value) (hz:D2 z=true) (k j:IntKind) (l c:Int) (h0:0<=l) (h1:l<=c) (h2:c*b<=1099511627776) (h3:c<=1099511627776):
  Y3 nx t 1 b [z] (.sc (.int k l)) (.sc (.int j c))=some (.ref nx 0 l.toNat c.toNat,some (.row t 1 false false (List.replicate c.toNat (.sc z))),[]):=by
 simp only[Y3]
 rw[aO9 ⟨h0,h1,h2,h3,by rw[OA];simp[hz]⟩,cF4]
def rZ (lo hi:Option Value):V->Option V
 | .sc (.string t)=>(z8 hi t.size t.size).bind fun h=>(z8 lo 0 h).bind fun l=>some (.sc (.string (t.extract l h)))
 |_=>none
def cN4 (n e:Nat) (lo hi:Option Value):V->Option V
 | .ptr o k=>if Nat.blt n A5 then cO e lo hi none (.ref o k n n) else none
 |_=>none
def aG5 (o:Nat):V->Option V
 | .ptr i k=>some (.ptr i (k+o))
 | .dp l k=>some (.dp l (k+o))
 | .sc (.pointer (some a))=>some (.sc (.pointer (some (C6 a o))))
 |_=>none
theorem HC (o i k:Nat):aG5 o (.ptr i k)=some (.ptr i (k+o)):=(rfl)
theorem RP (o:Nat) (l:List D) (k:Nat):aG5 o (.dp l k)=some (.dp l (k+o)):=(rfl)
def aG6 (o:Nat) (n:Option Nat):V->Option V
 | .agg cs=>match n with
   |none=>E1 cs o
   |some n=>(F5 (cs.drop o) n).map .agg
 |_=>none
theorem zR (o:Nat) (cs:List V):aG6 o none (.agg cs)=E1 cs o:=(rfl)
theorem zU (o n:Nat) (cs:List V):aG6 o (some n) (.agg cs)=(F5 (cs.drop o) n).map .agg:=(rfl)
def lA (e:Nat):V->V->Option V
 | .ref o k n _,.sc i=>(B4 i n).map fun i=> .ptr o (k+i*e)
 | .gr _ o n,.sc i=>(B4 i n).map fun i=> .ptr o (i*e)
 | .sl _ n l,.sc i=>(B4 i n).map fun i=> .dp l (i*e)
 | .slk _ n _ l,.sc i=>(B4 i n).map fun i=> .dp l (i*e)
 |_,_=>none
theorem HO (e o k n c:Nat) (kd:IntKind) (i:Int) (h0:0<=i) (h1:i<n):lA e (.ref o k n c) (.sc (.int kd i))=some (.ptr o (k+i.toNat*e)):=by simp only[lA,fR kd i n h0 h1,aX8]
theorem SS (e s o n:Nat) (kd:IntKind) (i:Int) (h0:0<=i) (h1:i<n):lA e (.gr s o n) (.sc (.int kd i))=some (.ptr o (i.toNat*e)):=by simp only[lA,fR kd i n h0 h1,aX8]
theorem SU (e s n:Nat) (l:List D) (kd:IntKind) (i:Int) (h0:0<=i) (h1:i<n):lA e (.sl s n l) (.sc (.int kd i))=some (.dp l (i.toNat*e)):=by simp only[lA,fR kd i n h0 h1,aX8]
def HL (n e:Nat):V->V->Option V
 | .ptr o k,.sc i=>(B4 i n).map fun i=> .ptr o (k+i*e)
 | .dp l k,.sc i=>(B4 i n).map fun i=> .dp l (k+i*e)
 | .sc (.pointer (some a)),.sc i=>(B4 i n).map fun i=> .sc (.pointer (some (C6 a (i*e))))
 |_,_=>none
theorem HM (n e o k:Nat) (kd:IntKind) (i:Int) (h0:0<=i) (h1:i<n):HL n e (.ptr o k) (.sc (.int kd i))=some (.ptr o (k+i.toNat*e)):=by simp only[HL,fR kd i n h0 h1,aX8]
def mV:V->V->Option V
 | .sc (.string t),.sc i=>(B4 i t.size).bind fun i=>(E1 t.data.toList i).bind fun b=>some (.sc (.int .u8 b.toNat))
 |_,_=>none
def HP (n e:Nat) (g:Option Nat):V->V->Option V
 | .agg cs,.sc i=>(B4 i n).bind fun i=>match g with
   |none=>E1 cs (i*e)
   |some m=>(F5 (cs.drop (i*e)) m).map .agg
 |_,_=>none
def bH3 (i:Nat):V->Option V
 | .tup vs=>E1 vs i
 |_=>none
theorem RM (i:Nat) (vs:List V):bH3 i (.tup vs)=E1 vs i:=(rfl)
def cM0 (t:TypeId):V->Option V
 | .sc v=>some (.sc (.iface t v))
 |v=>some (.ifc t v)
theorem TL (t:TypeId) (v:Value):cM0 t (.sc v)=some (.sc (.iface t v)):=(rfl)
def rF (t:Bool) (x:V):Option V:=if t then (match x with| .sc (.string b)=>some (.sc (.int .i64 b.size))|_=>none) else (Y1 x).map fun n=> .sc (.int .i64 n)
theorem TG (s n:Nat) (l:List D):rF false (.sl s n l)=some (.sc (.int .i64 n)):=(rfl)
theorem IE (o k n c:Nat):rF false (.ref o k n c)=some (.sc (.int .i64 n)):=(rfl)
theorem TF (s o n:Nat):rF false (.gr s o n)=some (.sc (.int .i64 n)):=(rfl)
theorem IF (s n c:Nat) (l:List D):rF false (.slk s n c l)=some (.sc (.int .i64 n)):=(rfl)
theorem ID (n c:Nat):rF false (.sc (.slice none n c))=some (.sc (.int .i64 0)):=(rfl)
theorem IG (b:ByteArray):rF true (.sc (.string b))=some (.sc (.int .i64 b.size)):=(rfl)
def mmV (g:Bool):V->V->Option V
 | .sc (.int k a),.sc (.int _ b)=>some (.sc (.int k (if g then (if b>a then b else a) else if b<a then b else a)))
 |_,_=>none
def aG0 (neg lit:Bool) (ts:List TypeId):V->V->Option V
 | .sc a,.sc b=>(vT lit ts a b).map fun r=> .sc (.bool (if neg then !r else r))
 | .ifc _ _,.sc .nilIface=>some (.sc (.bool neg))
 |_,_=>none
theorem RC (neg lit:Bool) (ts:List TypeId) (a b:Value):aG0 neg lit ts (.sc a) (.sc b)=(vT lit ts a b).map fun r=> .sc (.bool (if neg then !r else r)):=(rfl)
section
variable (old:Nat->Nat->Option Value) (fr:D0) (H:E9) (nx:Nat)
theorem aA7 (x:Operand):j6 old fr H nx (.mov x)=vp (s5 fr x):=(rfl)
theorem aN1 (c x y:Operand):j6 old fr H nx (.pick c x y)=vp (aL6 (s5 fr c) (s5 fr x) (s5 fr y)):=by
 simp only[j6]
 cases s5 fr c with
 |none=>rfl
 |some v=>
  simp only[aI2]
  cases v with
  |sc u=>cases u with
   |bool t=>cases t<;>rfl
   |_=>rfl
  |_=>rfl
theorem UH (t:TypeId) (z:List (Nat × Value)) (h:(X9 z).all D2=true):j6 old fr H nx (.alloc t z)=some (.ptr nx 0,some (.box t 1 (scL (X9 z))),[]):=by simp only[j6,h,if_true]
theorem bO8 (t:TypeId) (x:Operand):j6 old fr H nx (.box t x)=jT (bY8 nx t) (s5 fr x):=(rfl)
theorem UJ (z:List Value) (ps:List (Nat × Nat × Operand)):j6 old fr H nx (.build z ps)=jT (LQ z) (N6 fr ps):=by
 simp only[j6,jT]
 cases N6 fr ps with
 |none=>split<;>rfl
 |some v=>simp only[aI2,LQ]
theorem UP (t:TypeId) (e n:Nat) (z:List Value) (ps:List (Nat × Nat × Operand)):j6 old fr H nx (.mkRow t e n z ps)=jT (T8 nx t e n z) (N6 fr ps):=by
 simp only[j6,jT]
 cases N6 fr ps with
 |none=>split<;>rfl
 |some v=>simp only[aI2,T8];rfl
theorem aM8 (g:Option Nat) (x:Operand):j6 old fr H nx (.load g x)=vp (dV old H g (s5 fr x)):=by
 simp only[j6,dV]
 cases s5 fr x<;>rfl
theorem IZ (x:Operand):j6 old fr H nx (.nilChk x)=vp (jT rK (s5 fr x)):=by
 simp only[j6,jT]
 cases s5 fr x with
 |none=>rfl
 |some v=>
  simp only[aI2]
  unfold rK
  split<;>first|rfl|(split<;>first|rfl|(exfalso;simp_all;done))
theorem bO7 (op:BinOp) (x y:Operand):j6 old fr H nx (.bin op x y)=vp (mZ (cP2 op) (s5 fr x) (s5 fr y)):=by
 simp only[j6,mZ]
 cases s5 fr x with
 |none=>rfl
 |some a=>cases s5 fr y with
  |none=>rfl
  |some b=>
   simp only[aI2]
   unfold cP2
   split<;>first|rfl|(split<;>first|rfl|(exfalso;simp_all;done))
theorem bP0 (g:Bool) (x y:Operand):j6 old fr H nx (.eqB g x y)=vp (mZ (cA8 g) (s5 fr x) (s5 fr y)):=by
 simp only[j6,mZ]
 cases s5 fr x with
 |none=>rfl
 |some a=>cases s5 fr y with
  |none=>rfl
  |some b=>
   simp only[aI2]
   unfold cA8
   split<;>first|rfl|(split<;>first|rfl|(exfalso;simp_all;done))
theorem UN (k:Nat) (g:Bool) (x y:Operand):j6 old fr H nx (.eqNil k g x y)=vp (mZ (tI k g) (s5 fr x) (s5 fr y)):=by
 simp only[j6,mZ]
 cases s5 fr x with
 |none=>rfl
 |some a=>cases s5 fr y with
  |none=>rfl
  |some b=>
   simp only[aI2,tI]
   cases I1 k a with
   |none=>rfl
   |some p=>cases I1 k b with
    |none=>rfl
    |some q=>simp only[aI2];split<;>rfl
theorem cM5 (op:UnOp) (x:Operand):j6 old fr H nx (.un op x)=vp (jT (unV op) (s5 fr x)):=by
 simp only[j6,jT]
 cases s5 fr x with
 |none=>rfl
 |some v=>simp only[aI2];unfold unV;split<;>first|rfl|(split<;>first|rfl|(exfalso;simp_all;done))
theorem UK (k:IntKind) (x:Operand):j6 old fr H nx (.convI k x)=vp (jT (ZE k) (s5 fr x)):=by
 simp only[j6,jT]
 cases s5 fr x with
 |none=>rfl
 |some v=>simp only[aI2];unfold ZE;split<;>first|rfl|(split<;>first|rfl|(exfalso;simp_all;done))
theorem bO6 (x:Operand):j6 old fr H nx (.b2s x)=vp (jT (bC1 H) (s5 fr x)):=by
 simp only[j6,jT]
 cases s5 fr x with
 |none=>rfl
 |some v=>
  simp only[aI2,bC1]
  split
  ·cases Y1 v with
   |none=>rfl
   |some n=>
    simp only[aI2]
    cases M6 H 1 n v with
    |none=>rfl
    |some l=>
     simp only[aI2]
     split
     ·rfl
     ·cases E4 l.1<;>rfl
  ·rfl
theorem BY (t:TypeId) (e b:Nat) (z:List Value) (x y:Operand):j6 old fr H nx (.mkSlice t e b z x y)=mZ (Y3 nx t e b z) (s5 fr x) (s5 fr y):=by
 simp only[j6,mZ]
 cases s5 fr x with
 |none=>rfl
 |some a=>cases s5 fr y with
  |none=>rfl
  |some b=>
   simp only[aI2]
   cases a with
   |sc u=>cases u<;>first|rfl|(cases b with|sc v=>cases v<;>rfl|_=>rfl)
   |_=>rfl
def CU (f:Option Value->Option Value->V->Option V) (lo hi:Option (Option Value)) (x:Option V):Option V:=x.bind fun x=>lo.bind fun lo=>hi.bind fun hi=>f lo hi x
theorem CV (f:Option Value->Option Value->V->Option V) (lo hi:Option Value) (x:V):CU f (some lo) (some hi) (some x)=f lo hi x:=(rfl)
theorem aN3 (x:Operand) (lo hi:Option Operand):j6 old fr H nx (.slcS x lo hi)=vp (CU (fun lo hi=>rZ lo hi) (Y7 fr lo) (Y7 fr hi) (s5 fr x)):=by
 simp only[j6,CU]
 cases s5 fr x with
 |none=>rfl
 |some a=>cases Y7 fr lo with
  |none=>rfl
  |some l=>cases Y7 fr hi with
   |none=>rfl
   |some h=>
    simp only[aI2]
    cases a with
    |sc u=>cases u with
     |string t=>
      simp only[rZ]
      cases z8 h t.size t.size with
      |none=>rfl
      |some i=>simp only[aI2];cases z8 l 0 i<;>rfl
     |_=>rfl
    |_=>rfl
theorem bP2 (e:Nat) (x:Operand) (lo hi mx:Option Operand):j6 old fr H nx (.slc e x lo hi mx)=vp ((Y7 fr mx).bind fun mx=>CU (fun lo hi=>cO e lo hi mx) (Y7 fr lo) (Y7 fr hi) (s5 fr x)):=by
 simp only[j6,CU]
 cases s5 fr x with
 |none=>cases Y7 fr mx<;>rfl
 |some a=>cases Y7 fr lo with
  |none=>cases Y7 fr mx<;>rfl
  |some l=>cases Y7 fr hi with
   |none=>cases Y7 fr mx<;>rfl
   |some h=>cases Y7 fr mx<;>rfl
theorem aM3 (o:Nat) (x:Operand):j6 old fr H nx (.fldA o x)=vp (jT (aG5 o) (s5 fr x)):=by
 simp only[j6,jT]
 cases s5 fr x with
 |none=>rfl
 |some v=>simp only[aI2];unfold aG5;split<;>first|rfl|(split<;>first|rfl|(exfalso;simp_all;done))
theorem aM6 (e:Nat) (x i:Operand):j6 old fr H nx (.idxS e x i)=vp (mZ (lA e) (s5 fr x) (s5 fr i)):=by
 simp only[j6,mZ]
 cases s5 fr x with
 |none=>rfl
 |some a=>cases s5 fr i with
  |none=>rfl
  |some b=>
   simp only[aI2]
   cases b with
   |sc b=>
    cases a<;>first|rfl|(rename_i n _;simp only[lA];cases B4 b n<;>rfl)|(rename_i n _ _;simp only[lA];cases B4 b n<;>rfl)|(rename_i n;simp only[lA];cases B4 b n<;>rfl)
   |_=>cases a<;>rfl
theorem aM5 (n e:Nat) (x i:Operand):j6 old fr H nx (.idxA n e x i)=vp (mZ (HL n e) (s5 fr x) (s5 fr i)):=by
 simp only[j6,mZ]
 cases s5 fr x with
 |none=>rfl
 |some a=>cases s5 fr i with
  |none=>rfl
  |some b=>
   simp only[aI2]
   cases b with
   |sc b=>
    cases a with
    |ptr o k=>simp only[HL];cases B4 b n<;>rfl
    |dp l k=>simp only[HL];cases B4 b n<;>rfl
    |sc u=>cases u with
     |pointer p=>cases p with
      |none=>rfl
      |some a=>simp only[HL];cases B4 b n<;>rfl
     |_=>rfl
    |_=>rfl
   |_=>cases a with
    |sc u=>cases u with
     |pointer p=>cases p<;>rfl
     |_=>rfl
    |_=>rfl
theorem IY (x i:Operand):j6 old fr H nx (.idxStr x i)=vp (mZ mV (s5 fr x) (s5 fr i)):=by
 simp only[j6,mZ]
 cases s5 fr x with
 |none=>rfl
 |some a=>cases s5 fr i with
  |none=>rfl
  |some b=>
   simp only[aI2]
   cases a with
   |sc u=>cases u with
    |string t=>cases b with
     |sc i=>
      simp only[mV]
      cases B4 i t.size with
      |none=>rfl
      |some j=>simp only[aI2];cases E1 t.data.toList j<;>rfl
     |_=>rfl
    |_=>rfl
   |_=>rfl
theorem aM7 (n e:Nat) (g:Option Nat) (x i:Operand):j6 old fr H nx (.idxV n e g x i)=vp (mZ (HP n e g) (s5 fr x) (s5 fr i)):=by
 simp only[j6,mZ]
 cases s5 fr x with
 |none=>rfl
 |some a=>cases s5 fr i with
  |none=>rfl
  |some b=>
   simp only[aI2]
   cases a with
   |agg cs=>cases b with
    |sc i=>
     simp only[HP]
     cases B4 i n with
     |none=>rfl
     |some j=>simp only[aI2];cases g<;>rfl
    |_=>rfl
   |_=>rfl
theorem aA6 (x:Operand) (i:Nat):j6 old fr H nx (.ext x i)=vp (jT (bH3 i) (s5 fr x)):=by
 simp only[j6,jT]
 cases s5 fr x with
 |none=>rfl
 |some v=>simp only[aI2];unfold bH3;split<;>first|rfl|(split<;>first|rfl|(exfalso;simp_all;done))
def aK7 (f:FuncId) (a b:List V):Option V:=some (.fn f a b)
theorem aM9 (f:FuncId) (a b:List Operand):j6 old fr H nx (.mkFn f a b)=vp (mZ (aK7 f) (V3 fr a) (V3 fr b)):=by
 simp only[j6,mZ,aK7]
 cases V3 fr a with
 |none=>rfl
 |some x=>cases V3 fr b<;>rfl
theorem bP1 (t:Bool) (x:Operand):j6 old fr H nx (.len t x)=vp (jT (rF t) (s5 fr x)):=by
 simp only[j6,jT]
 cases s5 fr x with
 |none=>rfl
 |some v=>
  simp only[aI2]
  cases t with
  |true=>
   cases v with
   |sc u=>cases u<;>rfl
   |_=>rfl
  |false=>
   simp only[rF]
   cases Y1 v<;>rfl
theorem cM4 (g:Bool) (x y:Operand):j6 old fr H nx (.mm g x y)=vp (mZ (mmV g) (s5 fr x) (s5 fr y)):=by
 simp only[j6,mZ]
 cases s5 fr x with
 |none=>rfl
 |some a=>cases s5 fr y with
  |none=>rfl
  |some b=>
   simp only[aI2]
   cases a with
   |sc u=>cases u<;>first|rfl|(cases b with|sc v=>cases v<;>rfl|_=>rfl)
   |_=>rfl
theorem bO5 (t:TypeId) (e b:Nat) (x y:Operand):j6 old fr H nx (.app t e b x y)=mZ (oI H nx t e b) (s5 fr x) (s5 fr y):=(rfl)
def uM:V->Option V
 | .sc (.slice none _ _)=>some (.sc (.pointer none))
 | .ref o k _ c=>if Nat.beq c 0||Nat.beq c A5 then none else some (.ptr o k)
 | .gr _ o n=>if Nat.beq n 0 then none else some (.ptr o 0)
 |_=>none
theorem UQ (x:Operand):j6 old fr H nx (.sdata x)=vp (jT uM (s5 fr x)):=by
 simp only[j6,jT]
 cases s5 fr x with
 |none=>rfl
 |some a=>
  simp only[aI2]
  cases a with
  |sc x=>cases x with
   |slice a n c=>cases a<;>rfl
   |_=>rfl
  |ref o k n c=>
   simp only[uM]
   by_cases h:(Nat.beq c 0||Nat.beq c A5)=true
   ·rw[aO9 h,aO9 h];rfl
   ·rw[aQ4 h,aQ4 h];rfl
  |gr s o n=>
   simp only[uM]
   by_cases h:Nat.beq n 0=true
   ·rw[aO9 h,aO9 h];rfl
   ·rw[aQ4 h,aQ4 h];rfl
  |_=>rfl
theorem CS (n c:Nat):uM (.sc (.slice none n c))=some (.sc (.pointer none)):=(rfl)
theorem JO (s o n:Nat) (h:n ≠ 0):uM (.gr s o n)=some (.ptr o 0):=by
 simp only[uM]
 rw[aQ4 (by rw[j9];exact h)]
def DM (ob:Option Obj) (o k:Nat):Option V:=match ob with|some (.box _ _ l)=>if Nat.blt k l.length then some (.ptr o k) else none|_=>none
def aC0 (H:E9):V->Option V
 | .sc (.pointer none)=>some (.sc (.pointer none))
 | .ptr o k=>DM (j7 H o) o k
 |_=>none
theorem US (x:Operand):j6 old fr H nx (.toUns x)=vp (jT (aC0 H) (s5 fr x)):=by
 simp only[j6,jT]
 cases s5 fr x with
 |none=>rfl
 |some a=>
  simp only[aI2]
  cases a with
  |sc x=>cases x with
   |pointer a=>cases a<;>rfl
   |_=>rfl
  |ptr o k=>
   simp only[aC0,DM]
   cases j7 H o with
   |none=>rfl
   |some ob=>cases ob with
    |box t e l=>
     by_cases h:Nat.blt k l.length=true
     ·simp only[aO9 h];rfl
     ·simp only[aQ4 h];rfl
    |_=>rfl
  |_=>rfl
theorem DL (o k:Nat):aC0 H (.ptr o k)=DM (j7 H o) o k:=(rfl)
theorem DN (t e o k:Nat) (l:List V) (h:k<l.length):DM (some (.box t e l)) o k=some (.ptr o k):=by
 simp only[DM]
 rw[aO9 (by rw[bA6];exact h)]
def kT (t n:Nat) (ob:Option Obj) (o k:Nat):Option V:=match ob with|some (.box t' _ l)=>if Nat.beq t' t && Nat.beq k 0 && Nat.ble n l.length && Nat.blt 0 n then some (.ptr o k) else none|_=>none
def zX (H:E9) (t n:Nat):V->Option V
 | .sc (.pointer none)=>some (.sc (.pointer none))
 | .ptr o k=>kT t n (j7 H o) o k
 |_=>none
theorem BX (t n:Nat) (x:Operand):j6 old fr H nx (.fromUns t n x)=vp (jT (zX H t n) (s5 fr x)):=by
 simp only[j6,jT]
 cases s5 fr x with
 |none=>rfl
 |some a=>
  simp only[aI2]
  cases a with
  |sc x=>cases x with
   |pointer a=>cases a<;>rfl
   |_=>rfl
  |ptr o k=>
   simp only[zX,kT]
   cases j7 H o with
   |none=>rfl
   |some ob=>cases ob with
    |box t' e l=>
     by_cases h:(Nat.beq t' t && Nat.beq k 0 && Nat.ble n l.length && Nat.blt 0 n)=true
     ·simp only[aO9 h];rfl
     ·simp only[aQ4 h];rfl
    |_=>rfl
  |_=>rfl
theorem qT (t n o k:Nat):zX H t n (.ptr o k)=kT t n (j7 H o) o k:=(rfl)
theorem qU (t e n o:Nat) (l:List V) (h:n<=l.length) (h0:0<n):kT t n (some (.box t e l)) o 0=some (.ptr o 0):=by
 simp only[kT]
 rw[aO9 (by rw[aO3,aO3,aO3,j9,j9,bA2,bA6];exact ⟨⟨⟨rfl,rfl⟩,h⟩,h0⟩)]
def tJ (neg:Bool) (H:E9):V->V->Option V
 | .sc a,.sc b=>(kQ a b).map fun r=> .sc (.bool (if neg then !r else r))
 | .sc (.pointer none),.ptr _ _=>some (.sc (.bool neg))
 | .ptr _ _,.sc (.pointer none)=>some (.sc (.bool neg))
 | .ptr o k,.ptr o' k'=>if o=o'/\(j7 H o).isSome then (match j7 H o with|some (.gro _ _ _ _)=>none|_=>some (.sc (.bool (if neg then !(Nat.beq k k') else Nat.beq k k')))) else none
 |_,_=>none
theorem UO (g:Bool) (x y:Operand):j6 old fr H nx (.eqPtr g x y)=vp (mZ (tJ g H) (s5 fr x) (s5 fr y)):=by
 simp only[j6,mZ]
 cases s5 fr x with
 |none=>rfl
 |some a=>cases s5 fr y with
  |none=>rfl
  |some b=>
   simp only[aI2]
   cases a with
   |sc a=>cases b with
    |sc b=>simp only[tJ];cases kQ a b<;>rfl
    |ptr o k=>cases a with
     |pointer a=>cases a<;>rfl
     |_=>rfl
    |_=>cases a with
     |pointer a=>cases a<;>rfl
     |_=>rfl
   |ptr o k=>cases b with
    |sc b=>cases b with
     |pointer a=>cases a<;>rfl
     |_=>rfl
    |ptr o' k'=>
     simp only[tJ]
     by_cases h:o=o'/\(j7 H o).isSome=true
     ·rw[aO9 h,aO9 h]
      cases j7 H o with
      |none=>rfl
      |some ob=>cases ob<;>rfl
     ·rw[aQ4 h,aQ4 h];rfl
    |_=>rfl
   |_=>rfl
theorem RD (g:Bool) (o k t e:Nat) (l:List V) (h:j7 H o=some (.box t e l)):tJ g H (.ptr o k) (.ptr o k)=some (.sc (.bool (!g))):=by
 simp only[tJ,h,dL8,and_self,if_true,(j9 (i:=k) (j:=k)).2 rfl]
 cases g<;>rfl
theorem vV (g:Bool) (o k:Nat):tJ g H (.ptr o k) (.sc (.pointer none))=some (.sc (.bool g)):=(rfl)
theorem UM (g:Bool) (ps:List (Nat × Nat)) (x y:Operand):j6 old fr H nx (.eqAgg g ps x y)=vp (mZ (kO g ps) (s5 fr x) (s5 fr y)):=by
 simp only[j6,mZ]
 cases s5 fr x with
 |none=>rfl
 |some a=>cases s5 fr y with
  |none=>rfl
  |some b=>simp only[aI2];cases kO g ps a b<;>rfl
def aU4 (g r:Bool):Bool:=if g then !r else r
theorem bM3 (r:Bool):aU4 true r= !r:=(rfl)
theorem bM2 (r:Bool):aU4 false r=r:=(rfl)
theorem iS (g:Bool) (ps:List (Nat × Nat)) (xs ys:List V):kO g ps (.agg xs) (.agg ys)=(X7 ps xs ys).map fun r=> .sc (.bool (aU4 g r)):=(rfl)
theorem cE (xs ys:List V):X7 [] xs ys=some true:=(rfl)
theorem aU (o c:Nat) (r:List (Nat × Nat)) (xs ys:List V):X7 ((o,c)::r) xs ys=LJ (aT c (E1 xs o) (E1 ys o)) (X7 r xs ys):=(rfl)
theorem mK (p q:Bool):LJ (some p) (some q)=some (p && q):=by cases p<;>rfl
theorem eE (k:IntKind) (a b:Int):aT 0 (some (.sc (.int k a))) (some (.sc (.int k b)))=some (decide (a=b)):=by
 simp only[aT,tH,if_true]
 rfl
theorem cD (a b:Bool):aT 2 (some (.sc (.bool a))) (some (.sc (.bool b)))=some (a==b):=(rfl)
theorem vR (a b:ByteArray):aT 1 (some (.sc (.string a))) (some (.sc (.string b)))=some (a.toList==b.toList):=(rfl)
theorem aM2 (g l:Bool) (ts:List TypeId) (x y:Operand):j6 old fr H nx (.eqIf g l ts x y)=vp (mZ (aG0 g l ts) (s5 fr x) (s5 fr y)):=by
 simp only[j6,mZ]
 cases s5 fr x with
 |none=>rfl
 |some a=>cases s5 fr y with
  |none=>rfl
  |some b=>
   simp only[aI2]
   cases a with
   |sc a=>cases b with
    |sc b=>simp only[aG0];cases vT l ts a b<;>rfl
    |_=>rfl
   |ifc t a=>cases b with
    |sc b=>cases b<;>rfl
    |_=>rfl
   |_=>rfl
theorem UR (n:Nat) (a v:Operand):j6 old fr H nx (.store n a v)=none:=(rfl)
theorem aM1 (e:Nat) (d s:Operand):j6 old fr H nx (.copy e d s)=none:=(rfl)
theorem aN4 (t:TypeId) (p n:Operand):j6 old fr H nx (.ustr t p n)=none:=(rfl)
end
def bT2 (st:n9) (n:Nat) (a v:V):Option (V × n9):=(OU st n a v).map fun st=>(.tup [],st)
theorem YD (fr:D0) (st:n9) (n:Nat) (a v:Operand):R8 fr st (.store n a v)=mZ (bT2 st n) (s5 fr a) (s5 fr v):=by
 simp only[R8,mZ]
 rfl
theorem bX3 (fr:D0) (st:n9) (t:TypeId) (e b:Nat) (x y:Operand):R8 fr st (.app t e b x y)=mZ (wX st t e b) (s5 fr x) (s5 fr y):=(rfl)
theorem aQ2 (fr:D0) (st:n9) (e:Nat) (d x:Operand):R8 fr st (.copy e d x)=mZ (DU st e) (s5 fr d) (s5 fr x):=(rfl)
theorem aQ3 (fr:D0) (st:n9) (t:TypeId) (p n:Operand):R8 fr st (.ustr t p n)=mZ (EI st t) (s5 fr p) (s5 fr n):=(rfl)
theorem TE (o k n c:Nat):T6 (.ref o k n c)=some n:=(rfl)
theorem cC3 (s n:Nat) (l:List D):T6 (.sl s n l)=some n:=(rfl)
theorem bL2 (s n c:Nat) (l:List D):T6 (.slk s n c l)=some n:=(rfl)
theorem cC2 (s o n:Nat):T6 (.gr s o n)=some n:=(rfl)
theorem bL3 (b:ByteArray):T6 (.sc (.string b))=some b.size:=(rfl)
theorem cW2 (H:E9) (e s n:Nat) (l:List D) (h:l.length=n*e):M6 H e n (.sl s n l)=some (l,[]):=by
 simp only[M6]
 rw[aO9 ⟨h,aQ5 _⟩,cS6 (by omega)]
theorem cF7 (H:E9) (e s n c:Nat) (l:List D) (h:l.length=n*e):M6 H e n (.slk s n c l)=some (l,[]):=by
 simp only[M6]
 rw[aO9 ⟨h,aQ5 _⟩,cS6 (by omega)]
theorem cF8 (H:E9) (s:ByteArray):M6 H 1 s.size (.sc (.string s))=some (s.data.toList.map fun b=> .sc (.int .u8 b.toNat),[]):=by
 simp only[M6]
 rw[aO9 (by simp)]
 rw[cS6 (by simp)]
theorem b9 {α:Type} (f:α->D) (hf:∀ x,EQ (f x)=true) (l:List α):Q1 (l.map f)=true:=by
 simp only[Q1,List.all_map,bB3]
 intro x _
 exact hf x
section
variable {α:Type} [Inhabited α] [DecidableEq α]
theorem eR {P:Nat->Prop} {k:Nat} (h:∀ j,j<k->P j) (hk:P k):∀ j,j<k+1->P j:=fun j hj=>by
 rcases Nat.lt_succ_iff_lt_or_eq.1 hj with h'|rfl
 ·exact h j h'
 ·exact hk
end
theorem AW {α:Type} (l:List α):F5 l 0=some []:=by cases l<;>rfl
theorem AV {α:Type} (x:α) (l:List α) (n:Nat):F5 (x::l) (n+1)=(F5 l n).map (x::·):=rfl
theorem all_cons (x:Value) (l:List Value) (hx:E0 x=true) (hl:l.all E0=true):(x::l).all E0=true:=by simp[hx,hl]
theorem FJ.one {lo:Nat} {s:St} {t:TypeId} {e:Nat} {v:Value} {n:Nat} {cs:List Value} (o:FJ lo s t e v n cs):E0 v=true:=by
 rcases o.is with ⟨rfl,_⟩|⟨i,_,_,_,⟨rfl,_⟩|⟨rfl,_⟩⟩<;>rfl
def dM4:M8->Bool
 | .load _ _=>true
 | .store _ _ _=>true
 | .app _ _ _ _ _=>true
 | .copy _ _ _=>true
 |_=>false
section
variable {E:G3} {K:List KF} {fr f fr0:Fr} {s:St} {p n:Nat} {conc:List Nat} {hint:Option (List Nat)} {d:Option Nat} {l:List sL} {rs:List K6} {h:o7} {tail:List l5} {ks:List Nat} {V:VS}
theorem aY1 (d':Option Nat) (g:Option (Nat × Bool)) (o:M8):V2 E fr0 p ⟨⟨d',g,o⟩,conc,hint⟩ rs f h n=V2 E fr0 p ⟨⟨none,none,o⟩,conc,hint⟩ rs f h n:=by
 cases o<;>rfl
end
theorem dE7 (v w v' w':VS) (a b:NW):K6.ok ⟨v,w,a⟩ ⟨v',w',b⟩=(w.dis v' && w'.dis v && a.out v'):=rfl
theorem bF9 (a b:List Nat):(VS.only a).dis (.only b)=RA a b:=rfl
theorem bN4 (a c:Nat) (b:List Nat):(NW.rng a c).out (.only b)=eV a c b:=rfl

section
variable {α:Type}
theorem kF (i:Nat):j7 ([]:List (Nat × α)) i=none:=(rfl)
theorem PO (i:Nat) (v:α):oQ [] i v= [(i,v)]:=(rfl)
theorem yP (i j:Nat) (u v:α) (r:List (Nat × α)):oQ ((j,u)::r) i v=if i=j then (i,v)::r else if i<j then (i,v)::(j,u)::r else (j,u)::oQ r i v:=by
 simp only[oQ]
 by_cases h:i=j
 ·rw[aO9 (j9.2 h),aO9 h]
 ·rw[aQ4 (by rw[j9];exact h),aQ4 h]
  by_cases h2:i<j
  ·rw[aO9 (by rw[bA6];exact h2),aO9 h2]
  ·rw[aQ4 (by rw[bA6];exact h2),aQ4 h2]
theorem yO (fr:List (Nat × α)) (i:Nat) (v:α):u7 fr (some i) v=oQ fr i v:=(rfl)
theorem yN (fr:List (Nat × α)) (v:α):u7 fr none v=fr:=(rfl)
theorem PP (i:Nat) (v:α):A3 [] i v= []:=(rfl)
theorem M5 (i j:Nat) (u v:α) (r:List (Nat × α)):A3 ((j,u)::r) i v=if i=j then (j,v)::r else (j,u)::A3 r i v:=by
 simp only[A3]
 by_cases h:i=j
 ·rw[aO9 (j9.2 h),aO9 h]
 ·rw[aQ4 (by rw[j9];exact h),aQ4 h]
theorem PH (i:Nat):J6 i ([]:List (Nat × α))= []:=(rfl)
theorem cW (i j:Nat) (u:α) (r:List (Nat × α)):J6 i ((j,u)::r)=if i=j then J6 i r else (j,u)::J6 i r:=by
 simp only[J6]
 by_cases h:i=j
 ·rw[aO9 (j9.2 h),aO9 h]
 ·rw[aQ4 (by rw[j9];exact h),aQ4 h]
theorem FK (ks:List Nat):A8 ks ([]:List (Nat × α))= []:=(rfl)
theorem vD (ks:List Nat) (j:Nat) (v:α) (r:List (Nat × α)):A8 ks ((j,v)::r)=if p5 j ks=true then (j,v)::A8 ks r else A8 ks r:=(rfl)
end
theorem zY (fz:List Nat):D7 fz []= []:=(rfl)
theorem kU (fz:List Nat) (j:Nat) (o:Obj) (r:E9):D7 fz ((j,o)::r)=(j,if p5 j fz=true then o.froz else o)::D7 fz r:=(rfl)
theorem RU (t e:Nat) (g z:Bool) (l:List D):(Obj.row t e g z l).froz= .row t e g true l:=(rfl)
theorem RT (t e:Nat) (z:Bool) (l:List D):(Obj.gro t e z l).froz= .gro t e true l:=(rfl)
theorem RS (t e:Nat) (l:List V):(Obj.box t e l).froz= .box t e l:=(rfl)
theorem aW9 (ro:Nat) (H:E9) (o t e:Nat) (g z:Bool) (l:List D) (r:List Nat) (h:j7 H o=some (.row t e g z l)) (h4:ro<=o) (hr:D4 ro H r=true):D4 ro H (o::r)=true:=by
 simp only[D4,h,hr,dJ7,bA2];exact h4
theorem aW8 (ro:Nat) (H:E9) (o t e:Nat) (z:Bool) (l:List D) (r:List Nat) (h:j7 H o=some (.gro t e z l)) (h4:ro<=o) (hr:D4 ro H r=true):D4 ro H (o::r)=true:=by
 simp only[D4,h,hr,dJ7,bA2];exact h4
section
variable {fr:D0}
theorem aP5 (t:Nat):s5 fr (.tmp t)=j7 fr t:=(rfl)
theorem aP3 (k:IntKind) (n:Int):s5 fr (.const (.int k n))=some (.sc (.int k n)):=(rfl)
theorem XG (b:Bool):s5 fr (.const (.bool b))=some (.sc (.bool b)):=(rfl)
theorem aP4 (b:ByteArray):s5 fr (.const (.string b))=some (.sc (.string b)):=(rfl)
theorem XL:s5 fr (.const (.slice none 0 0))=some (.sc (.slice none 0 0)):=(rfl)
theorem XK:s5 fr (.const (.pointer none))=some (.sc (.pointer none)):=(rfl)
theorem XJ:s5 fr (.const .nilIface)=some (.sc .nilIface):=(rfl)
theorem XI:s5 fr (.const .nilFunc)=some (.sc .nilFunc):=(rfl)
theorem DW (g:Nat):s5 fr (.global g)=some (.sc (.pointer (some ⟨g,0,none⟩))):=(rfl)
theorem XH (f:FuncId):s5 fr (.func f)=some (.sc (.func (.func f) #[] #[])):=(rfl)
theorem XM:V3 fr []=some []:=(rfl)
def GJ (a:Option V) (b:Option (List V)):Option (List V):=a.bind fun v=>b.bind fun vs=>some (v::vs)
theorem zE (a:V) (b:List V):GJ (some a) (some b)=some (a::b):=(rfl)
theorem KP (x:Operand) (r:List Operand):V3 fr (x::r)=GJ (s5 fr x) (V3 fr r):=(rfl)
def dE2 (a:Option V):Option (Option Value):=a.bind fun v=>match v with| .sc (.int k i)=>some (some (.int k i))|_=>none
theorem HS (k:IntKind) (i:Int):dE2 (some (.sc (.int k i)))=some (some (.int k i)):=(rfl)
theorem KN:Y7 fr none=some none:=(rfl)
theorem KO (x:Operand):Y7 fr (some x)=dE2 (s5 fr x):=(rfl)
theorem sH:N6 fr []=some []:=(rfl)
def bE8 (o n:Nat) (a:Option V) (b:Option (List (Nat × Nat × V))):Option (List (Nat × Nat × V)):=a.bind fun v=>b.bind fun vs=>some ((o,n,v)::vs)
theorem vO (o n:Nat) (a:V) (b:List (Nat × Nat × V)):bE8 o n (some a) (some b)=some ((o,n,a)::b):=(rfl)
theorem oJ (o n:Nat) (x:Operand) (r:List (Nat × Nat × Operand)):N6 fr ((o,n,x)::r)=bE8 o n (s5 fr x) (N6 fr r):=(rfl)
end
theorem IX (st:n9):st.pushL []=st:=(rfl)
theorem BV (st:n9) (o:Obj) (r:List Obj):st.pushL (o::r)=n9.pushL ⟨(st.next,o)::st.own,st.next+1,st.ro⟩ r:=(rfl)
theorem DZ (H:E9) (o:Nat) (r:List (Nat × Nat)) (m:List Bool):Q8 H ((o,3)::r) (false::m)=J6 o (J6 (o+1) (J6 (o+2) (Q8 H r m))):=(rfl)
theorem XO (H:E9) (m:List Bool):Q8 H [] m=H:=by cases m<;>rfl
theorem KU (H:E9) (p:Nat × Nat) (r:List (Nat × Nat)) (m:List Bool):Q8 H (p::r) (true::m)=Q8 H r m:=(rfl)
theorem DY (H:E9) (o:Nat) (r:List (Nat × Nat)) (m:List Bool):Q8 H ((o,1)::r) (false::m)=J6 o (Q8 H r m):=(rfl)
theorem KT (H:E9) (o:Nat) (r:List (Nat × Nat)) (m:List Bool):Q8 H ((o,0)::r) (false::m)=Q8 H r m:=(rfl)
theorem XN (H:E9) (p:Nat × Nat) (r:List (Nat × Nat)):Q8 H (p::r) []=Q8 H r []:=(rfl)
section
variable {C:C8} {st:n9} {fr:D0} {res:List (Nat × Option (Option Nat))}
theorem EF:O6 C fr st []=some []:=(rfl)
theorem EG (t:Nat) (r:List (Nat × Option (Option Nat))):O6 C fr st ((t,none)::r)=GJ (j7 fr t) (O6 C fr st r):=by
 simp only[O6,GJ]
 cases j7 fr t with
 |none=>rfl
 |some v=>simp only[aI2];cases O6 C fr st r<;>rfl
theorem wY (t:Nat) (g:Option Nat) (r:List (Nat × Option (Option Nat))):O6 C fr st ((t,some g)::r)=GJ (dV C.E.old st.own g (j7 fr t)) (O6 C fr st r):=by
 simp only[O6,GJ,dV]
 cases j7 fr t with
 |none=>rfl
 |some p=>
  simp only[aI2]
  cases dU C.E.old st.own g p with
  |none=>rfl
  |some v=>simp only[aI2];cases O6 C fr st r<;>rfl
theorem XU (v:V):R7 [v]=v:=(rfl)
theorem XV (a b:V) (r:List V):R7 (a::b::r)= .tup (a::b::r):=(rfl)
mutual
theorem uV (ρ:List (Nat × Nat)):∀ (v:V),A4 v=true->Z1 ρ v=v
 | .sc x,_=>rfl
 | .agg l,h=>by simp only[A4] at h;simp only[Z1,pR ρ l h]
 | .tup l,h=>by simp only[A4] at h;simp only[Z1,pR ρ l h]
 | .sl _ _ _,h=>by simp[A4] at h
 | .slk _ _ _ _,h=>by simp[A4] at h
 | .dp _ _,h=>by simp[A4] at h
 | .ref _ _ _ _,h=>by simp[A4] at h
 | .gr _ _ _,h=>by simp[A4] at h
 | .ptr _ _,h=>by simp[A4] at h
 | .fn _ _ _,h=>by simp[A4] at h
 | .ifc t v,h=>by simp only[A4] at h;simp only[Z1,uV ρ v h]
 | .dead,h=>by simp[A4] at h
 | .tok _,h=>by simp[A4] at h
theorem pR (ρ:List (Nat × Nat)):∀ (l:List V),nZ l=true->dW ρ l=l
 | [],_=>rfl
 |v::r,h=>by
  simp only[nZ,aO3] at h
  simp only[dW,uV ρ v h.1,pR ρ r h.2]
end
theorem d7 {v:V} (h:A4 v=true) (h0:C.w0.nx=0) (hr:st.ro=0):K7 C [(0,v)] st [(0,v)] ⟨[],0,0⟩:=by
 have:=EJ (C:=C) (st:=st) [] 0 (fr:= [(0,v)]) (by omega) rfl
 rw[hr] at this
 simpa only[xE,uV [] v h,uG] using this
end
section
variable {old:Nat->Nat->Option Value} {rounds:Nat} {fns:FuncId->Option p8} {prims:FuncId->List Value->St->Option (Value × List A0)} {n:Nat} {f:FuncId} {xs:List V} {v:V} {st1:n9} {af:p8}
mutual
theorem LW {H:E9}:∀ {v:V},A4 v=true->Cl H v
 | .sc x,_=>by simp only[Cl]
 | .agg l,h=>by simp only[A4] at h;simp only[Cl];exact yY h
 | .tup l,h=>by simp only[A4] at h;simp only[Cl];exact yY h
 | .sl _ _ _,h=>by simp[A4] at h
 | .slk _ _ _ _,h=>by simp[A4] at h
 | .dp _ _,h=>by simp[A4] at h
 | .ref _ _ _ _,h=>by simp[A4] at h
 | .gr _ _ _,h=>by simp[A4] at h
 | .ptr _ _,h=>by simp[A4] at h
 | .fn _ _ _,h=>by simp[A4] at h
 | .ifc t v,h=>by simp only[A4] at h;simp only[Cl];exact LW h
 | .dead,h=>by simp[A4] at h
 | .tok _,h=>by simp[A4] at h
theorem yY {H:E9}:∀ {l:List V},nZ l=true->YF H l
 | [],_=>by simp only[YF]
 |v::r,h=>by
  simp only[nZ,aO3] at h
  simp only[YF]
  exact ⟨LW h.1,yY h.2⟩
end
theorem dX (hf:fns f=some af) (h5:af.pure=true) (hp:∀ xs s,prims f xs s=none) (h6:xs.length<=af.n) (h7:hO (t8 old rounds fns prims 0)) (h8:A4 v=true)
  (h:∀ C:C8,C.E=t8 old rounds fns prims n->C.w0.nx=0->gC C af.code [] (P4 0 xs) ⟨[],0,0⟩ (fC C af.res v ⟨[],0,0⟩)):m0 (t8 old rounds fns prims (n+1)) f xs v ⟨[],0,0⟩:=by
 refine XR hf h5 hp h6 h7 ⟨?_,(fun o t e l h=>by cases h),(fun o ob h=>by cases h)⟩ rfl h
 exact LW h8
theorem aP9 (hf:fns f=some af) (h5:af.pure=true) (hp:∀ xs s,prims f xs s=none) (h6:xs.length<=af.n) (h7:hO (t8 old rounds fns prims 0)) (hR:nT st1.own v) (h4:st1.ro=0)
  (h:∀ C:C8,C.E=t8 old rounds fns prims n->C.w0.nx=0->gC C af.code [] (P4 0 xs) ⟨[],0,0⟩ (fC C af.res v st1)):m0 (t8 old rounds fns prims (n+1)) f xs v st1:=XR hf h5 hp h6 h7 hR h4 h
theorem EH {st0:n9} (hf:fns f=some af) (h5:af.pure=true) (hp:∀ xs s,prims f xs s=none) (h6:xs.length<=af.n) (h8:A4 v=true)
  (h:∀ C:C8,C.E=t8 old rounds fns prims n->C.w0.nx=st0.next->∃ st1,gC C af.code [] (P4 0 xs) ⟨st0.own,st0.next,st0.next⟩ (fC C af.res v st1)):E7 (t8 old rounds fns prims (n+1)) f st0 xs v:=aZ6 hf h5 hp h6 h8 h
end
theorem jC (w:World) {r:Nat} {fns:FuncId->Option p8} {prims:FuncId->List Value->St->Option (Value × List A0)}:hO (t8 (J2 w) r fns prims 0):=by
 intro b o v e
 have e:J2 w b o=some v:=e
 unfold J2 at e
 split at e
 ·cases e;exact .inr ⟨_,_,_,rfl⟩
 ·split at e
  ·rename_i h;cases e;exact .inl (by simpa using h)
  ·cases e
 ·cases e
section
variable {C:C8} {K:List KF} {fr:D0} {st:n9} {P:B9}
theorem n7 {p:Prop} [Decidable p] {t e:AC} (h1:p->gC C t K fr st P) (h2:¬ p->gC C e K fr st P):gI C (some (.sc (.bool (decide p)))) t e K fr st P:=by
 by_cases h:p
 ·rw[cZ h,MT];exact h1 h
 ·rw[fH h,AF];exact h2 h
theorem n8 {b:Bool} {t e:AC} (h1:b=true->gC C t K fr st P) (h2:b=false->gC C e K fr st P):gI C (some (.sc (.bool b))) t e K fr st P:=by
 cases b
 ·exact h2 rfl
 ·exact h1 rfl
theorem m9 {p:Prop} [Decidable p] {want:Bool} {d:Option Nat} {o:M8} {l:List l5} {ks:List Nat} (h1:p->gG C (some (.sc (.bool true))) want d o l ks K fr st P) (h2:¬ p->gG C (some (.sc (.bool false))) want d o l ks K fr st P):gG C (some (.sc (.bool (decide p)))) want d o l ks K fr st P:=by
 by_cases h:p
 ·rw[cZ h];exact h1 h
 ·rw[fH h];exact h2 h
theorem n6 {b:Bool} {want:Bool} {d:Option Nat} {o:M8} {l:List l5} {ks:List Nat} (h1:b=true->gG C (some (.sc (.bool true))) want d o l ks K fr st P) (h2:b=false->gG C (some (.sc (.bool false))) want d o l ks K fr st P):gG C (some (.sc (.bool b))) want d o l ks K fr st P:=by
 cases b
 ·exact h2 rfl
 ·exact h1 rfl
theorem l8 {p:Prop} [Decidable p] {want:Bool} {t:Nat} {d:Option Nat} {o:M8} {l:List l5} {h3:List (List Bool)} {vds:List (Nat × Nat)} {tail:List l5} {ks:List Nat} (h1:p->gPG C (some (.sc (.bool true))) want t d o l h3 vds tail ks K fr st P) (h2:¬ p->gPG C (some (.sc (.bool false))) want t d o l h3 vds tail ks K fr st P):gPG C (some (.sc (.bool (decide p)))) want t d o l h3 vds tail ks K fr st P:=by
 by_cases h:p
 ·rw[cZ h];exact h1 h
 ·rw[fH h];exact h2 h
theorem l9 {b:Bool} {want:Bool} {t:Nat} {d:Option Nat} {o:M8} {l:List l5} {h3:List (List Bool)} {vds:List (Nat × Nat)} {tail:List l5} {ks:List Nat} (h1:b=true->gPG C (some (.sc (.bool true))) want t d o l h3 vds tail ks K fr st P) (h2:b=false->gPG C (some (.sc (.bool false))) want t d o l h3 vds tail ks K fr st P):gPG C (some (.sc (.bool b))) want t d o l h3 vds tail ks K fr st P:=by
 cases b
 ·exact h2 rfl
 ·exact h1 rfl
end
def cW7 (k n:Nat):Option Obj->Option D
 |some (.row _ e _ _ l)=>if k+n*e<=l.length then some (.sl 0 n ((l.drop k).take (n*e))) else none
 |_=>none
def cW6 (s n:Nat):Option Obj->Option D
 |some (.gro _ e _ l)=>if l.length=n*e/\s ≠ 0/\s ≠ 1/\e ≠ 0 then some (.sl s n l) else none
 |_=>none
theorem aO6 (H:E9) (o k n c:Nat):dS H (.ref o k n c)=cW7 k n (j7 H o):=by
 simp only[dS]
 cases j7 H o with
 |none=>rfl
 |some ob=>cases ob<;>rfl
theorem bT6 (H:E9) (s o n:Nat):dS H (.gr s o n)=cW6 s n (j7 H o):=by
 simp only[dS]
 cases j7 H o with
 |none=>rfl
 |some ob=>cases ob<;>rfl
theorem WW (n t e:Nat) (g z:Bool) (l:List D) (h:l.length=n*e):cW7 0 n (some (.row t e g z l))=some (.sl 0 n l):=by
 simp only[cW7]
 rw[aO9 (by omega),dD7,cS6 (by omega)]
theorem WU (s n t e:Nat) (z:Bool) (l:List D) (ha:s ≠ 0) (hd:s ≠ 1) (he:e ≠ 0) (h:l.length=n*e):cW6 s n (some (.gro t e z l))=some (.sl s n l):=by
 simp only[cW6]
 rw[aO9 ⟨h,ha,hd,he⟩]
theorem bT7 (H:E9) (x:Value):dS H (.sc x)=some (.sc x):=(rfl)
theorem bT8 (H:E9) (s n:Nat) (l:List D) (h:EQ (.sl s n l)=true):dS H (.sl s n l)=some (.sl s n l):=by simp only[dS,h,if_true]
abbrev Src:=Option (Nat × List D × List Nat)
def T5 (H:E9) (e:Nat) (y:V):Src:=(T6 y).bind fun m=>(M6 H e m y).map fun r=>(m,r.1,r.2)
def oH (H:E9) (e k n:Nat):Option Obj->Src
 |some (.row _ _ _ _ l)=>if k+n*e<=l.length then some (n,(l.drop k).take (n*e),[]) else none
 |some (.gro _ _ _ l)=>if k+n*e<=l.length/\n ≠ 0/\e ≠ 0 then some (n,(l.drop k).take (n*e),[]) else none
 |some (.box _ _ l)=>if k+n*e<=l.length then (cM H ((l.drop k).take (n*e))).map fun ds=>(n,ds,nS ((l.drop k).take (n*e))) else none
 |none=>none
def cF6 (e n:Nat):Option Obj->Src
 |some (.gro _ _ _ l)=>if l.length=n*e/\e ≠ 0 then some (n,l,[]) else none
 |_=>none
theorem uQ (H:E9) (e o k n c:Nat):T5 H e (.ref o k n c)=oH H e k n (j7 H o):=by
 simp only[T5,TE,aI2,M6]
 cases j7 H o with
 |none=>rfl
 |some ob=>
  cases ob with
  |row t e' g z l=>simp only[oH];split<;>rfl
  |gro t e' z l=>simp only[oH];split<;>rfl
  |box t e' l=>
   simp only[oH]
   split
   ·cases cM H ((l.drop k).take (n*e))<;>rfl
   ·rfl
theorem WG (H:E9) (e s o n:Nat):T5 H e (.gr s o n)=cF6 e n (j7 H o):=by
 simp only[T5,cC2,aI2,M6]
 cases j7 H o with
 |none=>rfl
 |some ob=>
  cases ob with
  |gro t e' z l=>
   simp only[cF6,aQ5,true_and]
   split
   ·rename_i h;rw[cS6 (by omega)];rfl
   ·rfl
  |_=>rfl
theorem sB (H:E9) (e s n:Nat) (l:List D) (h:l.length=n*e):T5 H e (.sl s n l)=some (n,l,[]):=by
 simp only[T5,cC3,aI2,cW2 H e s n l h,aX8]
theorem JU (H:E9) (e s n c:Nat) (l:List D) (h:l.length=n*e):T5 H e (.slk s n c l)=some (n,l,[]):=by
 simp only[T5,bL2,aI2,cF7 H e s n c l h,aX8]
theorem JT (H:E9) (e n c:Nat):T5 H e (.sc (.slice none n c))=some (0,[],[]):=(rfl)
theorem uR (H:E9) (s:ByteArray):T5 H 1 (.sc (.string s))=some (s.size,s.data.toList.map (fun b=> .sc (.int .u8 b.toNat)),[]):=by
 simp only[T5,bL3,aI2,cF8,aX8]
theorem JS (H:E9) (e n t e':Nat) (g z:Bool) (l:List D) (h:l.length=n*e):oH H e 0 n (some (.row t e' g z l))=some (n,l,[]):=by
 simp only[oH]
 rw[aO9 (by omega),dD7,cS6 (by omega)]
def YR (d:Option D) (fz:List Nat):Src:=d.map fun d=>(1,[d],fz)
theorem vK (d:D) (fz:List Nat):YR (some d) fz=some (1,[d],fz):=(rfl)
theorem JR (H:E9) (t e':Nat) (v:V):oH H 1 0 1 (some (.box t e' [v]))=YR (dS H v) (xR v):=by
 simp only[oH,YR]
 rw[aO9 (by simp)]
 simp only[dD7,dK7,dL3,List.take_zero,cM,nS,dC9]
 cases dS H v<;>rfl
theorem WF (e n t e':Nat) (z:Bool) (l:List D) (h:l.length=n*e) (he:e ≠ 0):cF6 e n (some (.gro t e' z l))=some (n,l,[]):=by
 simp only[cF6]
 rw[aO9 ⟨h,he⟩]
theorem aG8 (o k n c:Nat):xR (.ref o k n c)= [o]:=(rfl)
theorem bH8 (s o n:Nat):xR (.gr s o n)= [o]:=(rfl)
theorem bI0 (s n:Nat) (l:List D):xR (.sl s n l)= []:=(rfl)
theorem bH9 (x:Value):xR (.sc x)= []:=(rfl)
def yK (st:n9) (t e b s o n:Nat) (ob:Option Obj) (src:Src):Option (V × n9):=
 match ob,src with
 |some (.gro t' e' z l),some (m,new,fz)=>
  if Q1 new && !Nat.beq e 0 && D4 st.ro st.own fz then (if Nat.ble st.ro o && !z && (Nat.beq s 2|| !Nat.beq n 0) && Nat.beq t' t && Nat.beq e' e && Nat.beq l.length (n*e) && Nat.ble (n+m) s9 && Nat.ble ((n+m)*b) s9 && !p5 o fz then
   some (.gr 2 st.next (n+m),⟨(st.next,.gro t e false (l++new))::D7 fz (J6 o st.own),st.next+1,st.ro⟩) else none) else none
 |_,_=>none
theorem XD (st:n9) (t e b s o n:Nat) (y:V):wX st t e b (.gr s o n) y=yK st t e b s o n (j7 st.own o) (T5 st.own e y):=by
 simp only[wX,T5]
 cases T6 y with
 |none=>simp only[Option.bind_none,yK];cases j7 st.own o with|none=>rfl|some ob=>cases ob<;>rfl
 |some m=>
  simp only[aI2]
  cases M6 st.own e m y with
  |none=>simp only[Option.bind_none,Option.map_none,yK];cases j7 st.own o with|none=>rfl|some ob=>cases ob<;>rfl
  |some r=>
   simp only[aI2,aX8]
   cases j7 st.own o with
   |none=>simp only[yK];split<;>rfl
   |some ob=>cases ob<;>simp only[yK]<;>split<;>rfl
theorem PN (H:E9) (nx ro t e b s o n m:Nat) (l new:List D) (fz:List Nat) (hs:s=2\/n ≠ 0) (h0:ro<=o) (he:e ≠ 0) (hl:l.length=n*e) (h9:Q1 new=true) (hf:D4 ro H fz=true) (hg:p5 o fz=false) (h1:n+m<=1099511627776) (h2:(n+m)*b<=1099511627776):
  yK ⟨H,nx,ro⟩ t e b s o n (some (.gro t e false l)) (some (m,new,fz))=some (.gr 2 nx (n+m),⟨(nx,.gro t e false (l++new))::D7 fz (J6 o H),nx+1,ro⟩):=by
 simp only[yK,h9,hf]
 rw[aO9 (by simp[BC.2 he]),aO9]
 have hb:Nat.ble ro o=true:=by rw[bA2];exact h0
 have h3:Nat.ble (n+m) s9=true:=by rw[bA2];exact h1
 have h4:Nat.ble ((n+m)*b) s9=true:=by rw[bA2];exact h2
 have h5:Nat.beq l.length (n*e)=true:=j9.2 hl
 have h6:Nat.beq t t=true:=j9.2 rfl
 have h7:Nat.beq e e=true:=j9.2 rfl
 have h8:(Nat.beq s 2|| !Nat.beq n 0)=true:=by
  rw[cW5,cL0,BC]
  exact hs.imp j9.2 id
 simp only[hb,h3,h4,h5,h6,h7,h8,hg,Bool.not_false,Bool.and_self]
theorem XE (H:E9) (nx t e b s o n:Nat) (y:V):oI H nx t e b (.gr s o n) y=none:=by
 simp only[oI]
 cases T6 y with
 |none=>rfl
 |some m=>
  simp only[aI2]
  cases M6 H e m y with
  |none=>rfl
  |some r=>
   simp only[aI2]
   split
   ·rfl
   ·split<;>rfl
def LK (nx t e b:Nat) (src:Src):VO:=
 match src with
 |some (m,new,fz)=>if Nat.beq m 0 then some (.sc (.slice none 0 0),none,[]) else if Q1 new && !Nat.beq e 0 then (if Nat.ble m s9 && Nat.ble (m*b) s9 then some (.gr 2 nx m,some (.gro t e false new),fz) else none) else none
 |none=>none
theorem yL (nx t e b m:Nat) (new:List D) (fz:List Nat) (hm:m ≠ 0) (he:e ≠ 0) (h9:Q1 new=true) (h1:m<=1099511627776) (h2:m*b<=1099511627776):LK nx t e b (some (m,new,fz))=some (.gr 2 nx m,some (.gro t e false new),fz):=by
 simp only[LK]
 have h3:Nat.ble m s9=true:=by rw[bA2];exact h1
 have h4:Nat.ble (m*b) s9=true:=by rw[bA2];exact h2
 rw[aQ4 (by rw[j9];exact hm),aO9 (by simp[h9,BC.2 he]),aO9 (by simp[h3,h4])]
theorem vH (nx t e b:Nat) (new:List D) (fz:List Nat):LK nx t e b (some (0,new,fz))=some (.sc (.slice none 0 0),none,[]):=(rfl)
def iB (nx t e b n c o k:Nat) (base src:Src):VO:=
 match src with
 |some (m,new,fz)=>if Nat.beq m 0 then some (.ref o k n c,none,[]) else if Q1 new && !Nat.beq e 0 then (if Nat.blt c A5 && Nat.blt c (n+m) && Nat.ble (n+m) s9 && Nat.ble ((n+m)*b) s9 then
   (match base with|some (_,cs,fb)=>if Q1 cs then some (.gr 2 nx (n+m),some (.gro t e false (cs++new)),fb++fz) else none|none=>none) else none) else none
 |none=>none
theorem vE (nx t e b n c o k m q:Nat) (cs new:List D) (fb fz:List Nat) (hm:m ≠ 0) (he:e ≠ 0) (h9:Q1 new=true) (hh:Q1 cs=true) (hc:c<n+m) (h1:n+m<=1099511627776) (h2:(n+m)*b<=1099511627776):
  iB nx t e b n c o k (some (q,cs,fb)) (some (m,new,fz))=some (.gr 2 nx (n+m),some (.gro t e false (cs++new)),fb++fz):=by
 simp only[iB]
 have h3:Nat.ble (n+m) s9=true:=by rw[bA2];exact h1
 have h4:Nat.ble ((n+m)*b) s9=true:=by rw[bA2];exact h2
 have h5:Nat.blt c A5=true:=by rw[bA6];unfold A5;omega
 have h6:Nat.blt c (n+m)=true:=by rw[bA6];exact hc
 rw[aQ4 (by rw[j9];exact hm),aO9 (by simp[h9,BC.2 he]),aO9 (by simp[h3,h4,h5,h6])]
 simp only[hh,if_true]
theorem qD (nx t e b n c o k:Nat) (base:Src) (new:List D) (fz:List Nat):iB nx t e b n c o k base (some (0,new,fz))=some (.ref o k n c,none,[]):=(rfl)
theorem KJ (H:E9) (nx t e b:Nat) (y:V):oI H nx t e b (.sc (.slice none 0 0)) y=LK nx t e b (T5 H e y):=by
 simp only[oI,T5]
 cases T6 y with
 |none=>rfl
 |some m=>
  simp only[aI2]
  cases M6 H e m y with
  |none=>rfl
  |some r=>rfl
theorem KK (H:E9) (nx t e b o k n c:Nat) (y:V):oI H nx t e b (.ref o k n c) y=iB nx t e b n c o k (oH H e k n (j7 H o)) (T5 H e y):=by
 have hs:(M6 H e n (.ref o k n c)).map (fun r=>(n,r.1,r.2))=oH H e k n (j7 H o):=by
  have:=uQ H e o k n c
  simp only[T5,TE,aI2] at this
  exact this
 simp only[oI,T5]
 cases T6 y with
 |none=>rfl
 |some m=>
  simp only[aI2]
  cases M6 H e m y with
  |none=>rfl
  |some r=>
   simp only[aI2,aX8,iB,<- hs]
   split
   ·rfl
   ·split
    ·split
     ·cases M6 H e n (.ref o k n c) with
      |none=>rfl
      |some q=>rfl
     ·rfl
    ·rfl
def OK (st:n9) (o k t e:Nat) (g:Bool) (l:List D) (fz:List Nat) (d:Option D):Option (V × n9):=d.bind fun d=>if Nat.blt k l.length && !p5 o fz && D4 st.ro st.own fz then some (.tup [],⟨A3 (D7 fz st.own) o (.row t e g false (l.set k d)),st.next,st.ro⟩) else none
theorem wU (st:n9) (o k t e:Nat) (g:Bool) (l:List D) (fz:List Nat) (d:D) (h:k<l.length) (h2:p5 o fz=false) (h3:D4 st.ro st.own fz=true):OK st o k t e g l fz (some d)=some (.tup [],⟨A3 (D7 fz st.own) o (.row t e g false (l.set k d)),st.next,st.ro⟩):=by
 simp only[OK,aI2]
 rw[aO9 (by simp[h,h2,h3])]
def stO (st:n9) (n o k:Nat) (v:V) (ob:Option Obj):Option (V × n9):=
 ((O5 v).bind fun cs=>if Nat.beq cs.length n then (if !Nat.ble st.ro o then none else match ob with
    |some (.box t e l)=>if cs.all dM then (F8 l k cs).map fun l=>(⟨A3 st.own o (.box t e l),st.next,st.ro⟩:n9) else none
    |some (.row t e g z l)=>if z||p5 o (nS cs)|| !D4 st.ro st.own (nS cs) then none else (cM st.own cs).bind fun ds=>(F8 l k ds).map fun l=>(⟨A3 (D7 (nS cs) st.own) o (.row t e g false l),st.next,st.ro⟩:n9)
    |some (.gro t e z l)=>if z||p5 o (nS cs)||cs.isEmpty|| !D4 st.ro st.own (nS cs) then none else (cM st.own cs).bind fun ds=>(F8 l k ds).map fun l=>(⟨A3 (D7 (nS cs) st.own) o (.gro t e false l),st.next,st.ro⟩:n9)
    |none=>none) else none).map fun st=>(V.tup [],st)
theorem DE (st:n9) (n o k:Nat) (v:V):bT2 st n (.ptr o k) v=stO st n o k v (j7 st.own o):=(rfl)
theorem WH (st:n9) (o k t e:Nat) (l:List V) (v:V) (h0:st.ro<=o) (hv:dM v=true) (hk:k<l.length):stO st 1 o k v (some (.box t e l))=some (.tup [],⟨A3 st.own o (.box t e (l.set k v)),st.next,st.ro⟩):=by
 simp only[stO,jK v hv,aI2,dI7]
 rw[aO9 (show Nat.beq 1 1=true from rfl),aQ4 (by simp only[cB6,LO];exact h0)]
 simp only[dD3,hv,List.all_nil,dJ7,if_true]
 rw[bM _ _ _ hk]
 rfl
theorem WI (st:n9) (o t e n:Nat) (l m:List V) (h0:st.ro<=o) (hm:m.all dM=true) (hn:m.length=n) (hl:m.length=l.length):stO st n o 0 (.agg m) (some (.box t e l))=some (.tup [],⟨A3 st.own o (.box t e m),st.next,st.ro⟩):=by
 simp only[stO,O5,hm,if_true,aI2]
 rw[aO9 (j9.2 hn),aQ4 (by simp only[cB6,LO];exact h0)]
 rw[lM _ _ _ (by omega)]
 simp only[List.take_zero,dJ3,cZ9,aX8]
 rw[dJ8 (by omega),dC9]
theorem DB (st:n9) (o k t e:Nat) (g:Bool) (l:List D) (x:Value) (h0:st.ro<=o) (hk:k<l.length):stO st 1 o k (.sc x) (some (.row t e g false l))=some (.tup [],⟨A3 st.own o (.row t e g false (l.set k (.sc x))),st.next,st.ro⟩):=by
 simp only[stO,O5,aI2,dI7]
 rw[aO9 (show Nat.beq 1 1=true from rfl),aQ4 (by simp only[cB6,LO];exact h0)]
 simp only[nS,xR,dC9,p5,D4,dK1,Bool.or_false]
 rw[aQ4 (by simp)]
 simp only[cM,dS,aI2,aX8]
 rw[bM _ _ _ hk,y9]
 rfl
theorem DA (st:n9) (o k t e:Nat) (l:List D) (x:Value) (h0:st.ro<=o) (hk:k<l.length):stO st 1 o k (.sc x) (some (.gro t e false l))=some (.tup [],⟨A3 st.own o (.gro t e false (l.set k (.sc x))),st.next,st.ro⟩):=by
 simp only[stO,O5,aI2,dI7]
 rw[aO9 (show Nat.beq 1 1=true from rfl),aQ4 (by simp only[cB6,LO];exact h0)]
 simp only[nS,xR,dC9,p5,D4,dK1,Bool.or_false,List.isEmpty_cons]
 rw[aQ4 (by simp)]
 simp only[cM,dS,aI2,aX8]
 rw[bM _ _ _ hk,y9]
 rfl
theorem JV (st:n9) (o k t e:Nat) (g:Bool) (l:List D) (v:V) (h0:st.ro<=o) (hv:dM v=true):stO st 1 o k v (some (.row t e g false l))=OK st o k t e g l (xR v) (dS st.own v):=by
 simp only[stO,jK v hv,aI2,dI7]
 rw[aO9 (show Nat.beq 1 1=true from rfl),aQ4 (by simp only[cB6,LO];exact h0)]
 simp only[nS,dC9,Bool.false_or,cM,OK]
 cases dS st.own v with
 |none=>split<;>rfl
 |some d=>
  simp only[aI2,aX8]
  cases h1:p5 o (xR v)<;>cases h2:D4 st.ro st.own (xR v)
  ·simp
  ·simp only[dK1,Bool.or_self,cS5,if_false,Bool.not_false,dJ7]
   by_cases hk:k<l.length
   ·rw[bM _ _ _ hk,aO9 (by rw[bA6];exact hk)];rfl
   ·rw[aQ4 (by rw[bA6];exact hk)]
    have:F8 l k [d]=none:=by
     clear h1 h2
     induction l generalizing k with
     |nil=>cases k<;>rfl
     |cons x l ih=>
      cases k with
      |zero=>simp at hk
      |succ k=>simp only[F8];rw[ih k (by simpa using hk)];rfl
    rw[this];rfl
  ·simp
  ·simp
theorem bd {a b:Bool} (h:a=b):a=b:=h
theorem g9 {a b:Bool} (h:a=b:=by with_unfolding_all rfl):a=b:=h
set_option linter.unusedVariables false
set_option linter.constructorNameAsVariable false
section
variable {C:C8} {st:n9} {fr:D0}
theorem T1 (t ty e:Nat) (h:j7 fr t=some (.sc (.slice none 0 0))):K7 C fr st (oQ fr t (.gr 2 st.next 0)) ⟨(st.next,.gro ty e false [])::st.own,st.next+1,st.ro⟩:=
 (XZ fr ty e).trans (gY h (VP (t:=ty) (e:=e) (z:=false) (Nat.lt_succ_self _)))
theorem OV (o t' e' k ty e:Nat) {l:List V} (h:j7 st.own o=some (.box t' e' l)) (hk:l[k]? =some (.sc (.slice none 0 0))) (ho:o ≠ st.next):
  K7 C fr st fr ⟨A3 ((st.next,.gro ty e false [])::st.own) o (.box t' e' (l.set k (.gr 2 st.next 0))),st.next+1,st.ro⟩:=by
 refine (XZ fr ty e).trans (uY (C:=C) (fr:=fr) (st:=⟨(st.next,.gro ty e false [])::st.own,st.next+1,st.ro⟩) (v:= .sc (.slice none 0 0)) (v':= .gr 2 st.next 0) ?_ hk (VP (t:=ty) (e:=e) (z:=false) (Nat.lt_succ_self _)))
 simp only
 rw[n5,aQ4 ho]
 exact h
theorem o9 (ρ:List (Nat × Nat)) (k:Nat) {fr':D0} {st':n9} (h0:C.w0.nx=0) (hr:st.ro=0) (hk:IT 0 0 k ρ=true) (hf:xE ρ fr=fr') (hs:(⟨uG ρ st.own ρ,k,0⟩:n9)=st'):K7 C fr st fr' st':=by
 have:=EJ (C:=C) (st:=st) ρ k (fr:=fr) (by omega) (by rw[h0,hr];exact hk)
 rw[hr,hs,hf] at this
 exact this
theorem bQ2 (ρ:List (Nat × Nat)):xE ρ []= []:=(rfl)
theorem aW2 (ρ:List (Nat × Nat)) (t:Nat) (v:V) (r:D0):xE ρ ((t,v)::r)=(t,Z1 ρ v)::xE ρ r:=(rfl)
end
theorem m0.at {E:G3} {f:FuncId} {xs:List V} {v:V} {st1:n9} (h:m0 E f xs v st1) (hf:A4 v=true) (st:n9) (hs:T4 st.own xs=some xs):E7 E f st xs v:=h.flat hf hs
theorem m0.of {C:C8} {E:G3} (hC:C.E=E) {f:FuncId} {xs:List V} {v:V} {st1:n9} (h:m0 E f xs v st1) (hf:A4 v=true) (st:n9) (hs:T4 st.own xs=some xs):E7 C.E f st xs v:=by
 rw[hC];exact h.flat hf hs
theorem CH {H:E9} {v:V} (h1:Cl H v) (hb:∀ o ob,j7 H o=some ob->(match ob with| .box _ _ _=>false|_=>true)=true) (hv:∀ o ob,j7 H o=some ob->o ∈ aP v):nT H v:=
 ⟨h1,(fun o t e l h=>by have:=hb o _ h;cases this),(fun o ob h _=>VR.root o (hv o ob h))⟩
theorem uH {v:V} (h1:Cl [] v):nT [] v:=⟨h1,(fun o t e l h=>by cases h),(fun o ob h=>by cases h)⟩
theorem TJ {α β:Type} {f:α->β} {l:List α} {n:Nat} (h:n=l.length):n=0↔l.map f= []:=by
 subst h
 cases l<;>simp
theorem qC {α:Type} {i o:Nat} {v u:α} (h:j7 [(i,v)] o=some u):o=i/\u=v:=by
 rw[n5] at h
 split at h
 ·rename_i e;cases h;exact ⟨e,rfl⟩
 ·cases h
theorem bQ6 {t e n s:Nat} {z:Bool} {l:List D} (h:n=0↔l= []):nT [(0,.gro t e z l)] (.gr s 0 n):=by
 refine CH ?_ (fun o ob ho=>by rw[(qC ho).2]) (fun o ob ho=>by rw[(qC ho).1];simp[aP])
 simp only[Cl]
 exact ⟨t,e,z,l,rfl,h⟩
theorem aW6 {t e n k c:Nat} {g z:Bool} {l:List D}:nT [(0,.row t e g z l)] (.ref 0 k n c):=by
 refine CH ?_ (fun o ob ho=>by rw[(qC ho).2]) (fun o ob ho=>by rw[(qC ho).1];simp[aP])
 simp only[Cl]
 exact ⟨_,rfl,rfl⟩
end Go.Itp
namespace Go.Itp
set_option linter.unusedVariables false
set_option linter.constructorNameAsVariable false
set_option linter.unusedSimpArgs false
def AP (s:Nat):Nat:=if Nat.beq s 0 then 0 else 3
theorem aK0:AP 0=0:=(rfl)
theorem aK3:AP 3=3:=(rfl)
theorem aK2:AP 2=3:=(rfl)
theorem aK1:AP 1=3:=(rfl)
theorem LP (k:IntKind) (z:Int) (d n:Nat) (h0:0<=z) (h1:z<=n):z8 (some (.int k z)) d n=some z.toNat:=by
 simp only[z8]
 rw[aO9 ⟨h0,h1⟩]
theorem KW (e s n:Nat) (l:List D) (k j:IntKind) (a b:Int) (h0:0<=a) (h1:a<=b) (h2:b<=n) (h4:s ≠ 1\/n ≠ 0):cO e (some (.int k a)) (some (.int j b)) none (.sl s n l)=some (.sl (AP s) (b.toNat - a.toNat) (partD l (a.toNat*e) (b.toNat*e))):=by
 simp only[cO]
 rw[aO9 (bV.2 h4)]
 simp only[uO,LP j b n n (by omega) h2,aI2,LP k a 0 b.toNat h0 (by omega)]
 rfl
theorem aP7 (e s n:Nat) (l:List D) (k:IntKind) (a:Int) (h0:0<=a) (h1:a<=n) (h4:s ≠ 1\/n ≠ 0):cO e (some (.int k a)) none none (.sl s n l)=some (.sl (AP s) (n - a.toNat) (partD l (a.toNat*e) (n*e))):=by
 simp only[cO]
 rw[aO9 (bV.2 h4)]
 have h5:uO n (some (.int k a)) none=some (a.toNat,n):=by
  have h6:z8 none n n=some n:=rfl
  simp only[uO,h6,LP k a 0 n h0 h1,aI2]
 rw[h5]
 rfl
theorem aP6 (e s n:Nat) (l:List D) (j:IntKind) (b:Int) (h1:0<=b) (h2:b<=n) (h4:s ≠ 1\/n ≠ 0):cO e none (some (.int j b)) none (.sl s n l)=some (.sl (AP s) b.toNat (partD l 0 (b.toNat*e))):=by
 simp only[cO]
 rw[aO9 (bV.2 h4)]
 have h5:uO n none (some (.int j b))=some (0,b.toNat):=by
  simp only[uO,LP j b n n h1 h2,aI2]
  rfl
 rw[h5]
 simp only[aX8,Nat.zero_mul,Nat.sub_zero]
 rfl
theorem IW {α:Type} (f:α->D) (l:List α) (a b:Nat):partD (l.map f) a b=((l.drop a).take (b - a)).map f:=by
 simp[partD,List.map_drop,List.map_take]
theorem aY9 (H:E9) (nx ro e o n c t e' m:Nat) (g:Bool) (l cs:List D) (x:V) (ho:j7 H o=some (.row t e' g false l)) (h7:ro<=o) (hm:T6 x=some m) (hs:M6 H e m x=some (cs,[])) (h8:m<=n) (h9:Q1 cs=true) (hl:cs.length<=l.length):
  DU ⟨H,nx,ro⟩ e (.ref o 0 n c) x=some (.sc (.int .i64 m),⟨A3 H o (.row t e' g false (cs++l.drop cs.length)),nx,ro⟩):=by
 have hb:Nat.min m n=m:=Nat.min_eq_left h8
 simp only[DU,Y1,hm,aI2,hb,hs,ho]
 rw[aO9 (by simp[h9]),aQ4 (by simp[h7]),lM _ _ _ (by omega)]
 simp
def aF1 (st:n9) (e o n:Nat) (ob:Option Obj) (src:Src):Option (V × n9):=
 match ob,src with
 |some (.row t e' g z l),some (m,cs,fz)=>if !Nat.ble st.ro o||z|| !fz.isEmpty|| !Q1 cs|| !Nat.ble m n|| !Nat.ble cs.length l.length then none else some (.sc (.int .i64 m),⟨A3 st.own o (.row t e' g false (cs++l.drop cs.length)),st.next,st.ro⟩)
 |_,_=>none
theorem QP (H:E9) (nx ro e o n t e' m:Nat) (g:Bool) (l cs:List D) (h7:ro<=o) (h8:m<=n) (h9:Q1 cs=true) (hl:cs.length<=l.length):aF1 ⟨H,nx,ro⟩ e o n (some (.row t e' g false l)) (some (m,cs,[]))=some (.sc (.int .i64 m),⟨A3 H o (.row t e' g false (cs++l.drop cs.length)),nx,ro⟩):=by
 simp only[aF1]
 rw[aQ4]
 simp[h7,h9,h8,hl]
theorem aI7 {C:C8} {K:List KF} {fr:D0} {P:B9} (H:E9) (nx ro e o n c:Nat) (x:V) (d:Option Nat) (l:List l5) (ks:List Nat) (r:V × n9) (h:aF1 ⟨H,nx,ro⟩ e o n (j7 H o) (T5 H e x)=some r) (hq:gO C l ks K (u7 fr d r.1) r.2 P):
  gS C (DU ⟨H,nx,ro⟩ e (.ref o 0 n c) x) d l ks K fr P:=by
 unfold aF1 at h
 split at h
 case h_2=>cases h
 rename_i t e' g z l' m cs fz ho ha
 split at h
 ·cases h
 rename_i hc
 simp only[cW5,not_or,cB6,Bool.not_eq_false',bA2] at hc
 obtain ⟨⟨⟨⟨⟨h1,h2⟩,h3⟩,h4⟩,h5⟩,h6⟩:=hc
 cases h
 simp only[T5,aG3,aG4] at ha
 obtain ⟨m',hm,r',hr,he⟩:=ha
 obtain ⟨cs',fz'⟩:=r'
 simp only[aS6] at he
 obtain ⟨e1,e2,e3⟩:=he
 subst e1 e2 e3
 subst h2
 have hd:fz'= []:=by simpa using h3
 subst hd
 rw[aY9 H nx ro e o n c t e' m' g l' cs' x ho h1 hm hr h5 h4 h6]
 exact hq
theorem xT (k j:IntKind) (a b:Int):mmV true (.sc (.int k a)) (.sc (.int j b))=some (.sc (.int k (max a b))):=by
 have h:(if b>a then b else a)=max a b:=by omega
 simp only[mmV,if_true,h]
theorem aK8 (k j:IntKind) (a b:Int):mmV false (.sc (.int k a)) (.sc (.int j b))=some (.sc (.int k (min a b))):=by
 have h:(if b<a then b else a)=min a b:=by omega
 simp only[mmV,cS5,if_false,h]
end Go.Itp
namespace Go.Itp
open Go.RowKit (Below)
open Go.ChangeShapes Go.WideShapes
set_option linter.unusedSimpArgs false
def vY (P:Program):Nat->TypeId->Bool
 |0,_=>false
 |k+1,t=>match P.underlying t with
  |some .bool=>true
  |some (.int _)=>true
  |some .string=>true
  |some (.slice e)=> !(P.cellsOf e==0) && vY P k e
  |some (.struct fs)=>fs.toList.all fun f=>vY P k f.type
  |some (.array _ e)=>vY P k e
  |_=>false
section
variable {H:Type} {enc:TypeId × Value->H} {P:Program} {w:World} {base:Nat} {h0:Bool} {sp:Nat->Bool}
theorem aO8:∀ (k n:Nat) (t:TypeId) (cs:List Value) (x:DataW H × List MemPlace),vY P k t=true->DataW.trod enc P w base (fun _=>true) h0 n t cs=some x->(∀ p ∈ x.2,sp p.block=true)->
  DataW.trod enc P w base sp h0 n t cs=some x
 |0,_,_,_,_,h,_,_=>by simp[vY] at h
 |k+1,0,_,_,_,_,h,_=>by simp[DataW.trod] at h
 |k+1,n+1,t,cs,x,hf,h,hs=>by
  have ih:=fun t cs x=>aO8 k n t cs x
  rw[DataW.trod_step] at h ⊢
  unfold DataW.trodStep at h ⊢
  unfold vY at hf
  split at h
  case h_8 e a len cap hu=>
   rw[hu] at hf
   simp only[aO3,cL0,beq_eq_false_iff_ne] at hf
   simp only at h ⊢
   split at h
   ·rename_i hc
    rw[aO9 hc]
    simp only[aG4,aG3,if_true] at h ⊢
    obtain ⟨elems,he,rest,h4,rfl⟩:=h
    have g2:elems.length=len:=by simpa using mapM_some_length he
    have hh:rest.length=cap - len:=by simpa using mapM_some_length h4
    have one:∀ (a:Addr) (y:DataW H × List MemPlace),y ∈ elems++rest->(w.cells? base a (P.cellsOf e)).bind (DataW.trod enc P w base (fun _=>true) h0 n e)=some y->
      (w.cells? base a (P.cellsOf e)).bind (DataW.trod enc P w base sp h0 n e)=some y:=by
     intro a y hy hv
     simp only[aG3] at hv ⊢
     obtain ⟨c,hi,hk⟩:=hv
     exact ⟨c,hi,ih _ _ _ hf.2 hk fun p hp=>hs p (by simp only[cB1,dL7];exact Or.inr ⟨y,by simpa using hy,hp⟩)⟩
    refine ⟨elems,mapM_carry he fun i y _ hy hv=>one _ y (by simp[hy]) hv,rest,?_,rfl⟩
    by_cases hz:elems.length+rest.length=0
    ·have:rest= []:=List.length_eq_zero_iff.1 (by omega)
     subst this
     have:cap - len=0:=by simpa using hh.symm
     rw[this]
     split<;>simp
    ·have hb:sp a.block=true:=by
      have:=hs (.cell a.block (a.off+0)) (by
       simp only[cB1]
       left
       refine MemPlace.mem_row.2 ⟨0,?_,rfl⟩
       exact Nat.mul_pos (by omega) (cZ7 hf.1))
      simpa [MemPlace.block] using this
     rw[aO9 hb]
     exact mapM_carry h4 fun j y _ hy hv=>one _ y (by simp[hy]) hv
   ·cases h
  case h_9 fs hu=>
   rw[hu] at hf
   simp only[bB3] at hf
   split at h
   ·rename_i hc
    rw[aO9 hc]
    simp only[aG4] at h ⊢
    obtain ⟨xs,hx,rfl⟩:=h
    exact ⟨xs,mapM_carry hx (fun f y hm hy hv=>ih _ _ _ (hf f hm) hv (fun p hp=>hs p (dL7.2 ⟨y,hy,hp⟩))),rfl⟩
   ·cases h
  case h_10 m e hu=>
   rw[hu] at hf
   split at h
   ·rename_i hc
    rw[aO9 hc]
    simp only[aG4] at h ⊢
    obtain ⟨xs,hx,rfl⟩:=h
    exact ⟨xs,mapM_carry hx (fun f y _ hy hv=>ih _ _ _ hf hv (fun p hp=>hs p (dL7.2 ⟨y,hy,hp⟩))),rfl⟩
   ·cases h
  all_goals first|exact h|(exfalso;simp_all;done)|(simp_all;done)
theorem DR (k:Nat) {W W':World} (hb:Below W.heap.size W W'):∀ (ts:List TypeId) (vs:List Value) (ds:List (DataW H)) (ps:List MemPlace),ts.all (vY P k)=true->
  DataW.TrodAll enc P W base (fun _=>true) h0 ts vs ds ps->(∀ p ∈ ps,p.block<W.heap.size)->(∀ p ∈ ps,sp p.block=true)->DataW.TrodAll enc P W' base sp h0 ts vs ds ps
 | [],[],[],_,_,h,_,_=>h
 |t::ts,v::vs,d::ds,ps,hf,⟨p,q,⟨n,h1⟩,h2,e⟩,hl,hs=>by
  subst e
  simp only[dD3,aO3] at hf
  refine ⟨p,q,⟨n,?_⟩,DR k hb ts vs ds q hf.2 h2 (fun x hx=>hl x (by simp[hx])) (fun x hx=>hs x (by simp[hx])),rfl⟩
  refine aO8 k n _ _ _ hf.1 (DataW.trod_carry n _ _ _ h1 fun x hx=>hb.same (hl x ?_)) fun x hx=>hs x ?_
  ·simp only at hx;simp[hx]
  ·simp only at hx;simp[hx]
 | [],_::_,_,_,_,h,_,_=>by simp[DataW.TrodAll] at h
 | [],[],_::_,_,_,h,_,_=>by simp[DataW.TrodAll] at h
 |_::_,[],_,_,_,h,_,_=>by simp[DataW.TrodAll] at h
 |_::_,_::_,[],_,_,h,_,_=>by simp[DataW.TrodAll] at h
theorem bL1 {f:Func} {s:ChangeSpec} {apart fresh ho again:Bool} {W W':World} {args:Array Value} {ds gs:List (DataW H)} {before:List MemPlace} {rt:TypeId}
  (hW:DataW.Whole enc P f.params.toList s.vars apart W args.toList ds gs before) (hv:s.vars= []) (hq:s.fn H ds={results:= [.lit (.bool true)],args:=ds})
  (hf:f.params.toList.all (vY P 20)=true) (hr:f.resultTypes=#[rt]) (h5:P.underlying rt=some .bool) (hb:Below W.heap.size W W'):
  s.post enc P f apart fresh ho again W args (.bool true) W':=by
 have h3:∀ p ∈ before,p.block<W.heap.size:=fun p hp=>hW.lt p hp
 have ht:=hW
 obtain ⟨pa,pv,hA,hV,h6,hz,hn⟩:=hW
 rw[hv] at hV
 obtain ⟨rfl,rfl⟩:=trodVars_none hV
 rw[dC9] at h6
 subst h6
 have hd:s.fn H (ds++ [])={results:= [.lit (.bool true)],args:=ds}:=by rw[dC9];exact hq
 have h7:∀ (b:Nat) (sp:Nat->Bool) (hd:Bool),DataW.TrodAll enc P W' b sp hd f.resultTypes.toList ((Value.bool true).resultList f.resultTypes.size) (s.fn H (ds++ [])).results []:=by
  intro b sp g3
  rw[hr,hd]
  exact ⟨[],[],⟨1,by simp[DataW.trod,h5,Value.cells]⟩,rfl,rfl⟩
 have h8:∀ sp:Nat->Bool,(∀ p ∈ before,sp p.block=true)->DataW.TrodAll enc P W' 0 sp true f.params.toList args.toList (s.fn H (ds++ [])).args before:=fun sp hw=>by rw[hd];exact DR 20 hb _ _ _ _ hf hA h3 hw
 have g0:∀ p ∈ before,(fun b=>decide (b<W.heap.size)) p.block=true:=fun p hp=>by simpa using h3 p hp
 have h9:∀ sp,DataW.TrodVars enc P W' sp s.vars (s.fn H (ds++ [])).vars []:=fun sp=>by rw[hv,hd];rfl
 refine ⟨ds,[],before,[],before,[],ht,h7 _ _ _,h8 _ g0,h9 _,World.keptBut_mono (fun p hp=>⟨hp,?_⟩) (hb.frame (· ∈ before)),fun _=>?_⟩
 ·exact Or.inr (O hp)
 ·refine ⟨?_,_,_,([]++before)++ [],⟨[]++before,[],trodAll_append (h8 _ (fun _ _=>rfl)) (h7 _ _ _),h9 _,rfl,?_,?_⟩,?_⟩
  ·intro j t r h1 h2
   rw[hr] at h1 h2
   have hj:j=0:=by
    rcases cL3 j 1 with h|h
    ·omega
    ·rw[cZ3 (by simpa using h)] at h1;cases h1
   subst hj
   simp at h1 h2
   subst h1
   have g1:r= .bool true:=by
    have:(Value.bool true).resultList 1= [.bool true]:=rfl
    rw[this] at h2;simpa using h2.symm
   subst g1
   exact Go.RowKit.okWide_bool_mk h5 true
  ·intro b off hp
   have hg:MemPlace.cell b off ∈ before:=by simpa using hp
   rw[hb.frozen (h3 _ hg)]
   exact hz b off hg
  ·intro ha;simpa using hn ha
  ·intro p hp _;simpa using hp
end
end Go.Itp
namespace Go.Itp
open Go.ChangeShapes Go.WideShapes
set_option linter.unusedSimpArgs false
def LH:Value->Value
 | .slice (some ⟨b,o,some k⟩) 0 0=> .complex .f32 b (EX o k)
 |v=>v
section
variable {H:Type} {enc:TypeId × Value->H} {P:Program} {W:World} {base:Nat} {h0:Bool}
theorem aQ7 {b o:Nat} {c:Value} (h:W.cell? ⟨b,o,none⟩=some c) (h3:x9 0 c= []) (ha:LH c=c):J2 W b o=some (LH c):=by
 rw[ha];exact pJ h h3
end
section
variable {H:Type} {enc:TypeId × Value->H} {P:Program} {W:World} {base:Nat} {h0:Bool}
theorem lI {r:Reach} {b:Nat} {u:TypeId} {a:Addr} {n c:Nat} (h:Cell.okWide P W r b u (.slice (some a) n c)):a.spot=none:=by
 unfold Cell.okWide at h
 split at h
 all_goals first|(rename_i heq;cases heq;done)|skip
 unfold Cell.ok at h
 split at h
 all_goals first|(rename_i heq;cases heq;done)|skip
 ·rename_i e a' len cap _ heq
  cases heq
  exact h.2.2.2.1
 ·exact h.elim
theorem cO5 {r:Reach} {b:Nat} {u:TypeId} {v:Value} (h:Cell.okWide P W r b u v):LH v=v:=by
 unfold LH
 split
 ·rename_i b' o k
  have:=lI h
  cases this
 ·rfl
end
section
variable {H:Type} {enc:TypeId × Value->H} {P:Program} {W:World} {base:Nat} {h0:Bool}
theorem pH {t:TypeId} {b:Nat} {v:Value} (ht:∀ fs,P.underlying t ≠ some (.struct fs)) (h4:∀ n e,P.underlying t ≠ some (.array n e)) (hv:Value.okWide P W .any b t v):Cell.okWide P W .any b t v:=by
 unfold Value.okWide at hv
 split at hv
 ·rename_i fs h;exact (ht fs h).elim
 ·rename_i n e h;exact (h4 n e h).elim
 ·exact hv
theorem bN1 {t:TypeId} {b:Nat} {v:Value} {d:DataW H} {ps:List MemPlace} (ht:P.underlying t=some .string) (hv:Value.okWide P W .any b t v) (h:DataW.Trod enc P W base (fun _=>true) h0 t v d ps) (h5:∀ n ∈ d.weights P t,n<=reachBytes):
  ∃ s:ByteArray,v= .string s/\s.size<=reachBytes:=by
 have hc:=pH (by simp[ht]) (by simp[ht]) hv
 obtain ⟨n,hn⟩:=h
 obtain ⟨s,h1,h2,_⟩:=DataW.trod_string ht hn
 have h6:v= .string s:=by
  unfold Cell.okWide at hc
  simp only[ht,Cell.ok] at hc
  cases v<;>first|(exfalso;simp at hc;done)|(simpa [Value.cells] using h1)
 simp only[aS6] at h2
 exact ⟨s,h6,by have:=h5 s.data.toList.length (by rw[h2.1];simp[DataW.weights]);simpa using this⟩
theorem bN0 {t:TypeId} {k:IntKind} {b:Nat} {v:Value} {d:DataW H} {ps:List MemPlace} (ht:P.underlying t=some (.int k)) (hv:Value.okWide P W .any b t v) (h:DataW.Trod enc P W base (fun _=>true) h0 t v d ps):
  ∃ z:Int,v= .int k z/\(Lit.int k z).wf=true:=by
 have hc:=pH (by simp[ht]) (by simp[ht]) hv
 obtain ⟨n,hn⟩:=h
 obtain ⟨z,h1,_,h2⟩:=DataW.trod_int ht hn
 refine ⟨z,?_,h2⟩
 unfold Cell.okWide at hc
 simp only[ht,Cell.ok] at hc
 cases v<;>first|(exfalso;simp at hc;done)|(simpa [Value.cells] using h1)
theorem pS {ts:List TypeId} {ds:List (DataW H)} (h:(DataW.weightsEach P ts ds).all (· <=reachBytes)=true) {j:Nat} {t:TypeId} {d:DataW H} (ht:ts[j]? =some t) (hd:ds[j]? =some d):∀ n ∈ d.weights P t,n<=reachBytes:=fun n hn=>by
 have:=bB3.1 h n (DataW.weights_mem_each ht hd n hn)
 simpa using this
end
set_option linter.unusedVariables false
section
variable {H:Type} {enc:TypeId × Value->H} {P:Program} {W:World} {base:Nat} {h2:Bool}
theorem zL {e:TypeId} (he:P.underlying e=some .bool) (c:Value) (n:Nat) (y:DataW H × List MemPlace) (h:DataW.trod enc P W base (fun _=>true) h2 n e [c]=some y):∃ b:Bool,c= .bool b:=by
 obtain ⟨z,h1,_⟩:=DataW.trod_bool he h
 exact ⟨z,by simpa using h1⟩
theorem bN2 {t:TypeId} {f0 f1:Field} {b:Nat} {v:Value} {d:DataW H} {ps:List MemPlace} (ht:P.underlying t=some (.struct #[f0,f1])) (o0:f0.offset=0) (o1:f1.offset=1)
  (c0:P.cellsOf f0.type=1) (c1:P.cellsOf f1.type=1) (ct:P.cellsOf t=2) (hv:Value.okWide P W .any b t v) (h:DataW.Trod enc P W base (fun _=>true) h2 t v d ps) (h5:∀ n ∈ d.weights P t,n<=reachBytes):
  ∃ (n:Nat) (a0 a1:Value) (y0 y1:DataW H × List MemPlace),v= .agg [a0,a1].toArray/\LH a0=a0/\LH a1=a1/\
   DataW.trod enc P W base (fun _=>true) h2 n f0.type [a0]=some y0/\DataW.trod enc P W base (fun _=>true) h2 n f1.type [a1]=some y1/\
   (∀ m ∈ y0.1.weights P f0.type,m<=reachBytes)/\(∀ m ∈ y1.1.weights P f1.type,m<=reachBytes):=by
 unfold Value.okWide at hv
 rw[ht] at hv
 obtain ⟨cs,rfl,h3,ts,_,_,h6⟩:=hv
 rw[ct] at h3
 obtain ⟨l⟩:=cs
 simp only[List.size_toArray] at h3
 obtain ⟨a0,a1,rfl⟩:∃ a0 a1,l= [a0,a1]:=by
  rcases l with _|⟨a0,_|⟨a1,_|⟨a2,l⟩⟩⟩<;>simp at h3
  exact ⟨a0,a1,rfl⟩
 obtain ⟨n,hn⟩:=h
 cases n with
 |zero=>simp[DataW.trod] at hn
 |succ n=>
  have h4:∀ i c,([a0,a1]:List Value)[i]? =some c->LH c=c:=fun i c hc=>by
   obtain ⟨u,_,hu⟩:=h6 i c (by simpa using hc)
   exact cO5 hu
  unfold DataW.trod at hn
  simp only[ht,Value.cells] at hn
  rw[aO9 (by simp[ct])] at hn
  simp only[aG4,List.mapM_cons,List.mapM_nil] at hn
  obtain ⟨xs,hx,hd⟩:=hn
  simp only[o0,o1,c0,c1,dD7,dL5,dL3,List.take_zero] at hx
  cases h0:DataW.trod enc P W base (fun _=>true) h2 n f0.type [a0] with
  |none=>simp[h0] at hx
  |some y0=>
   cases h1:DataW.trod enc P W base (fun _=>true) h2 n f1.type [a1] with
   |none=>simp[h0,h1] at hx
   |some y1=>
    have h7:xs= [y0,y1]:=by simpa [h0,h1] using hx.symm
    subst h7
    simp only[aS6] at hd
    obtain ⟨rfl,rfl⟩:=hd
    have hw:∀ m,(m ∈ y0.1.weights P f0.type\/m ∈ y1.1.weights P f1.type)->m<=reachBytes:=fun m hm=>h5 m (by
     simp only[DataW.weights,ht,cJ1,dL9,DataW.weightsEach,cB1]
     rcases hm with hm|hm
     ·exact O hm
     ·exact Or.inr (O hm))
    exact ⟨n,a0,a1,y0,y1,rfl,h4 0 _ rfl,h4 1 _ rfl,h0,h1,fun m hm=>hw m (O hm),fun m hm=>hw m (Or.inr hm)⟩
end
end Go.Itp
namespace Go.Itp
set_option linter.unusedVariables false
set_option linter.unusedSimpArgs false
section
variable {old:Nat->Nat->Option Value} {rounds:Nat} {fns:FuncId->Option p8} {prims:FuncId->List Value->St->Option (Value × List A0)} {n:Nat} {xs:List V} {af:p8}
abbrev uX (old:Nat->Nat->Option Value):VW:=⟨fun a=>match a.spot with|none=>old a.block a.off|some _=>none,fun _=>False,fun _=>none,0⟩
theorem PK (E:G3) (h:E.old=old):p9 E ([]:o7)=(uX old).ld:=by
 funext a
 obtain ⟨b,o,sp⟩:=a
 subst h
 rcases sp with _|_|k<;>rfl
theorem dE3 {xsI:List Value} {x:Value} (h1:xs.length<=af.n) (hx:i6 (uX old) xs xsI)
  (h:∀ C:C8,C.E=t8 old rounds fns prims n->C.w0.nx=0->gC C af.code [] (P4 0 xs) ⟨[],0,0⟩ (fC C af.res (.sc x) ⟨[],0,0⟩)):∃ s',body (t8 old rounds fns prims n) af xsI St.empty=some (x,s'):=by
 let C:C8:=C1 (t8 old rounds fns prims n) St.empty (YG (t8 old rounds fns prims n) [] fun _=>False)
 have hs:SR C ⟨[],0,0⟩ ⟨St.empty.heap,St.empty.next,St.empty.next⟩ (fun _=>none) fun _=>False:=SR.start (fun b hb=>hb.elim) (fun b blk e=>by simp[St.empty,i7] at e)
 have h2:i6 (x8 C ⟨[],0,0⟩ ⟨St.empty.heap,St.empty.next,St.empty.next⟩ (fun _=>none) fun _=>False) xs xsI:=by
  show i6 ⟨p9 (t8 old rounds fns prims n) ([]:o7),fun _=>False,fun _=>none,0⟩ xs xsI
  rw[PK _ (iJ n)];exact hx
 obtain ⟨vI,sf,h0,μ,G,g1,g2,g3,g4,g5⟩:=sU (C:=C) (s:=⟨St.empty.heap,St.empty.next,St.empty.next⟩) h1 (h C rfl rfl) ⟨_,_,hs,bR 0 h2,VW.le.refl _,rfl,fun b hb=> .inl hb⟩ hx.length
 simp only[f9] at g2
 rw[g2.1] at h0
 exact ⟨sf,h0⟩
theorem GY {α:Type} {W:VW} (g:α->D) (f:α->Value):∀ (l:List α) (a:Addr),(∀ k (hk:k<l.length),W.ld (C6 a k)=some (f l[k]))->(∀ x ∈ l,A1 W (g x) (f x))->A6 W (l.map g) a
 | [],a,_,_=>by simp only[dL9,A6]
 |x::r,a,h,hg=>by
  simp only[cJ1,A6]
  refine ⟨⟨f x,?_,hg x (dB6 ..)⟩,GY g f r _ (fun k hk=>?_) fun y hy=>hg y (cR3 _ hy)⟩
  ·have:=h 0 (by simp)
   simpa [C6] using this
  ·have:=h (k+1) (by simpa using hk)
   rw[show C6 (C6 a 1) k=C6 a (k+1) from by simp only[C6,dK2,Nat.add_comm 1 k]]
   simpa using this
end
set_option linter.constructorNameAsVariable false
section
variable {old:Nat->Nat->Option Value} {rounds:Nat} {fns:FuncId->Option p8} {prims:FuncId->List Value->St->Option (Value × List A0)} {n:Nat} {f:FuncId} {xs:List V} {v:V} {st st1:n9} {af:p8} {C:C8}
theorem SR.env2 {s:St} {μ:Nat->Option Nat} {F:Nat->Prop} (h:SR C st s μ F) {C':C8} (hE:p9 C'.E=p9 C.E) (hn:C'.n0<=s.next) (hU:∀ b,(C'.U b->b<C'.n0/\i7 s.heap b=i7 C'.h0 b)/\(C'.U b->C.U b)):SR C' st s μ F:=by
 have hw:x8 C' st s μ F=x8 C st s μ F:=by
  show (⟨p9 C'.E s.heap,F,μ,st.next⟩:VW)=⟨p9 C.E s.heap,F,μ,st.next⟩
  rw[hE]
 refine ⟨fun o ob e h3=>?_,fun o ob b e1 e2 e3=>?_,h.fz,h.inj,h.dom,h.lt,h.cl,fun b hb=>(hU b).1 hb,hn,h.own,h.hb,h.pr,h.pb⟩
 ·rw[hw];exact h.obj o ob e h3
 ·obtain ⟨q1,q2⟩:=h.wr o ob b e1 e2 e3
  exact ⟨q1,fun hr=>⟨(q2 hr).1,fun hu=>(q2 hr).2 ((hU b).2 hu)⟩⟩
theorem mP {Q:V->n9->Prop} (hC:C.E=t8 old rounds fns prims (n+1)) (hf:fns f=some af) (h4:af.pure=false) (hp:∀ xs s,prims f xs s=none) (h5:xs.length<=af.n) (hq:Q v st1)
  (h:∀ C':C8,C'.E=t8 old rounds fns prims n->C'.w0.nx=st.next->gC C' af.code [] (P4 0 xs) st (fC C' af.res v st1)):T2 C f xs st Q:=by
 refine ⟨v,st1,hq,fun s μ F xsI h1 hx h2=>?_⟩
 let C':C8:=⟨t8 old rounds fns prims n,s.next,s.heap,C.U,⟨p9 (t8 old rounds fns prims n) s.heap,F,μ,st.next⟩,C.p0⟩
 have hE:p9 C'.E=p9 C.E:=by rw[hC];exact X3 _ _
 have h6:SR C' st s μ F:=h1.env2 hE (aQ5 _) (fun b=>⟨fun hb=>⟨by have:=(h1.un b hb).1;have:=h1.n0;show b<s.next;omega,rfl⟩,fun hb=>hb⟩)
 have h7:i6 (x8 C' st s μ F) xs xsI:=by
  show i6 ⟨p9 C'.E s.heap,F,μ,st.next⟩ xs xsI
  rw[hE];exact hx
 obtain ⟨vI,sf,h8,μ',G,g1,g2,g3,g4,g5⟩:=sU (C:=C') (s:=s) h5 (h C' rfl rfl) ⟨μ,F,h6,bR 0 h7,VW.le.refl _,h2,fun b hb=> .inl hb⟩ hx.length
 have hn:s.next<=sf.next:=g1.n0
 have hw:x8 C st1 sf μ' G=x8 C' st1 sf μ' G:=by
  show (⟨p9 C.E sf.heap,G,μ',st1.next⟩:VW)=⟨p9 C'.E sf.heap,G,μ',st1.next⟩
  rw[hE]
 have g1':SR C st1 sf μ' G:=g1.env2 hE.symm (by have:=h1.n0;omega) (fun b=>⟨fun hb=>⟨(h1.un b hb).1,by rw[(g1.un b hb).2];exact (h1.un b hb).2⟩,fun hb=>hb⟩)
 refine ⟨vI,sf,μ',G,?_,g1',by rw[hw];exact g2,?_,by rw[g4,h2],hn,fun b hb=>?_⟩
 ·simp only[callI,hC,K0,vN,hp,hf,aI2,h4]
  exact h8
 ·rw[hw]
  show VW.le ⟨p9 C.E s.heap,F,μ,st.next⟩ _
  rw[<- hE];exact g3
 ·rcases g5 b hb with hb|hb
  ·exact .inl hb
  ·exact .inr (by rw[h2];exact hb)
end
section
variable {C:C8} {st:n9} {fr:D0}
end
theorem mM {α:Type}:∀ (r:List (Nat × α)) (i:Nat) (u v:α),A3 (A3 r i u) i v=A3 r i v
 | [],i,u,v=>rfl
 |(k,x)::r,i,u,v=>by
  rw[M5,M5]
  split
  ·rename_i h;subst h;rw[M5,aO9 rfl]
  ·rename_i h;rw[M5,aQ4 h,mM r i u v]
theorem FO {α:Type}:∀ (r:List (Nat × α)) (i:Nat) (u:α),j7 r i=some u->A3 r i u=r
 | [],i,u,h=>rfl
 |(k,x)::r,i,u,h=>by
  rw[M5]
  rw[n5] at h
  split
  ·rename_i hk;rw[aO9 hk] at h;cases h;rfl
  ·rename_i hk;rw[aQ4 hk] at h;rw[FO r i u h]
theorem hS {α:Type} {r:List (Nat × α)} {i:Nat} {u v:α} (h:j7 r i=some u):j7 (A3 r i v) i=some v:=by rw[H7 _ _ _ _ _ h,aO9 rfl]
theorem wG (u t:TypeId) (f:FuncId) (r:List (TypeId × FuncId)):T7 ((u,f)::r) t=if t=u then some f else T7 r t:=by
 simp only[T7]
 by_cases h:t=u
 ·rw[aO9 (j9.2 h),aO9 h]
 ·rw[aQ4 (by rw[j9];exact h),aQ4 h]
section
variable {old:Nat->Nat->Option Value} {fr:D0} {H:E9} {nx:Nat}
def bZ7:V->Option V
 | .ref _ _ _ c=>if Nat.blt c A5 then some (.sc (.int .i64 c)) else none
 | .slk _ _ c _=>some (.sc (.int .i64 c))
 | .sc (.slice none _ _)=>some (.sc (.int .i64 0))
 |_=>none
theorem QK (n c:Nat):bZ7 (.sc (.slice none n c))=some (.sc (.int .i64 0)):=(rfl)
theorem QL (s n c:Nat) (l:List D):bZ7 (.slk s n c l)=some (.sc (.int .i64 c)):=(rfl)
theorem KX (e n c:Nat) (j:IntKind):cO e none (some (.int j 0)) none (.sc (.slice none n c))=some (.sc (.slice none 0 0)):=by
 simp only[cO]
 rfl
theorem XQ (e s o n:Nat) (j:IntKind) (hn:n ≠ 0):cO e none (some (.int j 0)) none (.gr s o n)=some (.ref o 0 0 (A5+n)):=by
 simp only[cO]
 rw[aQ4 (by rw[j9];exact hn)]
 have h1:Nat.blt (A5+n) A5=false:=by rw[<- cB6,bA6];omega
 have h2:Nat.blt 0 (A5+n - A5)=true:=by rw[bA6];omega
 have h0:0<n:=by omega
 simp only[uN,z8,aI2]
 simp[h1,h0]
theorem FN (t e b:Nat) (z:Value) (n:Nat) (hn:0<n) (h1:n<=1099511627776) (hz:D2 z=true) (h2:n*b<=1099511627776):DT nx t e b [z] (.sc (.slice none 0 0)) (.sc (.int .i64 n))=some (.gr 2 nx n,some (.gro t e false (List.replicate n (.sc z))),[]):=by
 have hr:rep [z] n=List.replicate n z:=by
  induction n with
  |zero=>rfl
  |succ n ih=>
   rcases dI6 n with h0|h0
   ·subst h0;rfl
   ·simp only[rep,List.replicate_succ]
    rw[ih h0 (by omega) (dJ2 (dC6 _ (Nat.le_succ n)) h2)]
    rfl
 simp only[DT]
 rw[aQ4 (by omega),aO9 ⟨by omega,by unfold s9;omega,by simp[hz],by simp⟩]
 simp only[cJ2]
 rw[aO9 (by rw[bA2];exact h2),hr]
 simp[pN]
def cC (st:n9) (t e b o k n c:Nat) (ob:Option Obj) (src:Src):Option (V × n9):=
 match ob,src with
 |some (.row t' e' g z l),some (m,new,fz)=>
  if Q1 new && !Nat.beq e 0 && D4 st.ro st.own fz then (if !Nat.ble st.ro o||z||Nat.beq m 0|| !Nat.ble (n+m) s9|| !Nat.ble ((n+m)*b) s9 then none
      else if Nat.blt c A5 then (if Nat.ble (n+m) c && !p5 o fz then (F8 l (k+n*e) new).map fun l=>(.ref o k (n+m) c,⟨A3 (D7 fz st.own) o (.row t' e' g false l),st.next,st.ro⟩) else none)
      else if g && Nat.beq t' t && Nat.beq e' e && Nat.beq (k+n*e) l.length && Nat.beq c (A5+n) && !p5 o fz then
       some (.gr 2 st.next (n+m),⟨(st.next,.gro t e false (l.drop k++new))::D7 fz (J6 o st.own),st.next+1,st.ro⟩)
      else if Nat.ble (n+m) (c - A5) && !p5 o fz && !(g && Nat.beq t' t && Nat.beq e' e && Nat.beq (k+n*e) l.length && Nat.beq c (A5+n)) then (F8 l (k+n*e) new).map fun l=>(.ref o k (n+m) c,⟨A3 (D7 fz st.own) o (.row t' e' g false l),st.next,st.ro⟩)
      else none) else none
 |_,_=>none
theorem KI (st:n9) (t e b o k n c:Nat) (y:V):wX st t e b (.ref o k n c) y=cC st t e b o k n c (j7 st.own o) (T5 st.own e y):=by
 simp only[wX,T5]
 cases T6 y with
 |none=>simp only[Option.bind_none,cC];cases j7 st.own o with|none=>rfl|some ob=>cases ob<;>rfl
 |some m=>
  simp only[aI2]
  cases M6 st.own e m y with
  |none=>simp only[Option.bind_none,Option.map_none,cC];cases j7 st.own o with|none=>rfl|some ob=>cases ob<;>rfl
  |some r=>
   simp only[aI2,aX8]
   cases j7 st.own o with
   |none=>simp only[cC];split<;>rfl
   |some ob=>cases ob<;>simp only[cC]<;>split<;>rfl
theorem fY {α:Type}:∀ (l:List α) (k:Nat) (m:List α),k+m.length<=l.length->F8 l k m=some (l.take k++m++l.drop (k+m.length))
 |l,k,[],h=>by simp[F8]
 | [],k,x::m,h=>by simp at h
 |a::l,0,x::m,h=>by
  simp only[bK2] at h
  simp only[F8]
  rw[fY l 0 m (by omega)]
  simp
 |a::l,k+1,x::m,h=>by
  simp only[bK2] at h
  simp only[F8]
  rw[fY l k (x::m) (by simp only[bK2];omega)]
  simp only[aX8,dL3,dI5,bK2]
  rw[show k+1+(m.length+1)=k+(m.length+1)+1 by omega,dL5]
theorem yM (H:E9) (nx ro t e b o k n N t' e' m:Nat) (g:Bool) (l new:List D) (h7:ro<=o) (he:e ≠ 0) (hm:m ≠ 0) (h8:Q1 new=true) (h9:n+m<=N) (h1:n+m<=1099511627776) (h2:(n+m)*b<=1099511627776) (hl:k+n*e+new.length<=l.length) (hn:n ≠ N):
  cC ⟨H,nx,ro⟩ t e b o k n (A5+N) (some (.row t' e' g false l)) (some (m,new,[]))=some (.ref o k (n+m) (A5+N),⟨A3 H o (.row t' e' g false (l.take (k+n*e)++new++l.drop (k+n*e+new.length))),nx,ro⟩):=by
 simp only[cC,h8]
 have hb:Nat.ble ro o=true:=by rw[bA2];exact h7
 have h3:Nat.ble (n+m) s9=true:=by rw[bA2];exact h1
 have h4:Nat.ble ((n+m)*b) s9=true:=by rw[bA2];exact h2
 have h5:Nat.beq (A5+N) (A5+n)=false:=BC.2 (by omega)
 have h6:Nat.ble (n+m) (A5+N - A5)=true:=by rw[bA2];omega
 rw[aO9 (by simp[BC.2 he,D4]),aQ4 (by simp[hb,h3,h4,BC.2 hm]),aQ4 (by rw[bA6];omega),aQ4 (by simp[h5]),aO9 (by rw[h6,h5];simp[p5])]
 rw[fY _ _ _ hl,y9]
 rfl
end
end Go.Itp
