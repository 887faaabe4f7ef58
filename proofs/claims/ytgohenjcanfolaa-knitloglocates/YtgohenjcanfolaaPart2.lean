/- What is proved: the law KnitlogLocates returns true for every input.
   Texts: Draw5, DrawW, DrawW2, DrawW3, DrawW4, RunA, RunB, Run, Gc, Srt, Call, Law, Prims, Closed, Walk, Sym, Walk2, Walk3, Walk4, V1, V2, V3, V4, V5, V6.
-/
import Derived.Test.YtgohenjcanfolaaPart1
import Derived.Sort.Row
import Derived.Sort.Grow
import Derived.Laws.StandIn
import Derived.Lib.MakeNoZero
import Derived.OpenShut
import Derived.LaidMore
import Derived.MakeChecks
namespace Go.Itp
open Go.RowKit (Below)
variable {P:Program} {E:D9} {G:u9} {s s':St} {w ws w':World} {o:Oper} {a:Act} {fr fr':Fr} {v c:Value} {bs:List w7} {N:Nat}
variable {s0:St} {al:List j9} {A:List (List Nat)} {m:Nat} {fr0:Fr} {T:Nat→Tr} {ops:Array Oper} {μ μ0 μ':Mu} {ds0:List Deferred} {l:Array Bool}
theorem PH (hT:fB E s0 al A m fr0 T) {k:Nat} {x:j9} (hk:k<m) (hx:al[k]? =some x) (h:iW x.op=false):(T k).bs= []:=by
 obtain ⟨b,_,h1,h2⟩:=hT.at_ k x hk hx
 cases b
 ·exact (h2 rfl).2
 ·exact yN h (h1 rfl)
theorem kR (A:List (List Nat)) (al:List j9) (i:Nat):
  (W2 A al i= []∧∀ k,k<i→k ∈ (A[i]?).getD []∨∀ x,al[k]? =some x→iW x.op=false)∨W2 A al i=Y1 ((A[i]?).getD []) i:=by
 unfold W2
 split
 ·rename_i h
  left
  refine ⟨rfl,fun k hk=>?_⟩
  simp only[List.all_eq_true,List.mem_range] at h
  have:=h k hk
  rw[Bool.or_eq_true] at this
  rcases this with h1|h1
  ·exact .inl (fQ.1 h1)
  ·right
   intro x hx
   rw[z8,hx] at h1
   simpa using h1
 ·right
  rw[z8]
theorem J.le0 (h:J P N G ops al m fr0 s0 μ0 ws ds0 T l a w μ) (hr:D8 G μ0 s0 ws):Mu.le μ0 μ:=fun j q e=>by
 have hj:j<s0.next:=by
  rcases Nat.lt_or_ge j s0.next with h'|h'
  ·exact h'
  ·rw[hr.dom j h'] at e;cases e
 rw[h.low j hj];exact e
theorem J.leCut (h:J P N G ops al m fr0 s0 μ0 ws ds0 T l a w μ) (hr:D8 G μ0 s0 ws) {n:Nat} (hn:s0.next≤n):Mu.le μ0 (cut μ n):=fun j q e=>by
 have hj:j<s0.next:=by
  rcases Nat.lt_or_ge j s0.next with h'|h'
  ·exact h'
  ·rw[hr.dom j h'] at e;cases e
 unfold cut
 rw[if_pos (by omega),h.low j hj];exact e
theorem bH0 {ro:Option Nat} (hE:r7 P E G.w0 μ0) (S:N5 P N ops al A m) (hT:fB E s0 al A m fr0 T) (hr:D8 G μ0 s0 ws) {Q:Exit→Act→World→Prop}
  (htail:I1 E (al.drop m) (T m).fr ⟨k8 s0.heap (eF T m) [],(T m).n,s0.prot⟩=some (fr',s')) (hQ:mF G N s0 μ0 ds0 fr' s' (Q .normal)):
  ∀ (fuel:Nat) (l:Array Bool) (a:Act) (w:World) (μ:Mu),J P N G ops al m fr0 s0 μ0 ws ds0 T l a w μ→zJ l ops.size≤fuel→wpAnyIn (FW ro) 0 P .any ops Q fuel l a w:=by
 have hml:m≤al.length:=by rw[S.len];exact S.mle
 intro fuel
 induction fuel with
 |zero=>
  intro l a w μ h hc
  by_cases hm:m=0
  ·subst hm
   have hn:ops.size=0:=by
    have:=EB (l:=l) 0 ops.size fun i _ hi=>h.pre i (by omega)
    omega
   have hrep:=h.rep hT hr (i:=0) (Nat.le_refl _) (mask:= []) (L:= []) (.inl rfl) (fun k hk=>by omega) G s0.prot rfl (hr.bp.trans (L1.of h.bs fun k hk=>hr.fxlt hk)) hr.le hr.pr
    (fun j b q hb hq hp=>by obtain ⟨q',q1,_,q3,_⟩:=hr.blk j b hb;rw[hq] at q1;cases q1;exact q3 hp) (.inl fun k hk=>hr.fxlt hk)
   rw[mS h.hi] at hrep
   refine GG S 0 0 l (T 0).fr _ μ a w (hE.mono (h.le0 hr)) (Nat.le_refl _) (by omega) h.sz (fun i hi=>by omega) (by omega) htail ?_ h.tN hrep ?_
   ·intro t v' hv
    rw[hT.fr] at hv
    obtain ⟨c',c1,c2⟩:=h.fr0' t v' (fun k x hk=>by omega) hv
    exact ⟨c',c1,J9 (fun j q e=>by
     have hj:j<s0.next:=by
      rcases Nat.lt_or_ge j s0.next with h'|h'
      ·exact h'
      ·rw[hr.dom j h'] at e;cases e
     rw[h.low j hj];exact e) _ c2⟩
   ·rw[h.df]
    intro μ2 a2 w2 hle
    exact hQ μ2 a2 w2 (U0.trans ⟨fun j q e=>by
     have hj:j<s0.next:=by
      rcases Nat.lt_or_ge j s0.next with h'|h'
      ·exact h'
      ·rw[hr.dom j h'] at e;cases e
     rw[h.low j hj];exact e,by simp only;rw[hT.n];exact Nat.le_refl _,h.low⟩ hle)
  ·have:=sG (l:=l) ops.size (ops.size - 1) (by have:=S.mle;omega)
   have hall:∀ i,i<ops.size→B3 l i:=by
    intro i hi
    refine Classical.byContradiction fun hd=>?_
    have:=sG (l:=l) ops.size i hi hd
    omega
   have hms:m=ops.size:=by
    rcases Nat.lt_or_ge m ops.size with h'|h'
    ·exact absurd (hall m h') (h.pre m (Nat.le_refl _))
    ·have:=S.mle;omega
   exact pre_done hE S hT hr htail hQ 0 l a w μ h (fun i hi=>hall i (by omega)) (by omega)
 |succ fuel ih=>
  intro l a w μ h hc
  by_cases hall:∀ i,i<m→B3 l i
  ·exact pre_done hE S hT hr htail hQ (fuel+1) l a w μ h hall (by
    have:=EB (l:=l) m ops.size fun i hi _=>h.pre i hi
    omega)
  obtain ⟨i0,hi0,hnd0⟩:∃ i,i<m∧¬ B3 l i:=by
   refine Classical.byContradiction fun hn=>hall fun i hi=>Classical.byContradiction fun hd=>hn ⟨i,hi,hd⟩
  refine ⟨fun hnil=>absurd (sZ S h.sz hnil i0 (by have:=S.mle;omega)) hnd0,fun i hi=>?_⟩
  obtain ⟨o,ho,hnd,hpr⟩:=(U9 h.sz).1 hi
  have hio:i<ops.size:=by
   rcases Nat.lt_or_ge i ops.size with h'|h'
   ·exact h'
   ·simp[Array.getElem?_eq_none h'] at ho
  have him:i<m:=by
   rcases Nat.lt_or_ge i m with h'|h'
   ·exact h'
   ·exact absurd (N6 S h.cl i o ho hpr i0 (S.tail i0 i h' hio (by omega))) hnd0
  obtain ⟨x,hx,hxr⟩:=(T1 _ _ _ S.res).2 i o (by simpa using ho)
  obtain ⟨g1,g2,g3,g4⟩:=aA hxr
  have hf:=h.frame S hT hr him ho hnd hpr hx
  obtain ⟨b,hb,hb1,hb2⟩:=hT.at_ i x him hx
  have hw:=kG hf g1 hb
  have hds:=hT.ds i (by omega)
  have hns:=hT.ns i him
  have hsz:i<l.size:=by rw[h.sz];exact hio
  have hcnt:zJ (l.setIfInBounds i true) ops.size≤fuel:=by
   have:=(EC hsz hnd ops.size).1 hio
   omega
  have hrepi:D8 (uK G.w0 w (T i).n) (cut μ (T i).n) ⟨k8 s0.heap (eF T i) (W2 A al i),(T i).n,(T i).n⟩ w:=by
   refine h.rep hT hr (by omega) (mask:=W2 A al i) (L:=(A[i]?).getD []) ?_ ?_ (uK G.w0 w (T i).n) (T i).n rfl (L1.refl _ _) ?_ rfl ?_ (.inr (Nat.le_refl _))
   ·rcases kR A al i with ⟨h1,_⟩|h1
    ·exact .inl h1
    ·exact .inr h1
   ·intro k hk hvis hne
    have hanc:k ∈ (A[i]?).getD []→B3 l k:=fun hm=>N6 S h.cl i o ho hpr k hm
    rcases kR A al i with ⟨h1,h2⟩|h1
    ·rcases h2 k hk with h3|h3
     ·exact hanc h3
     ·obtain ⟨y,hy⟩:∃ y,al[k]? =some y:=⟨al[k]'(by omega),by simp[show k<al.length by omega]⟩
      exact absurd (PH hT (by omega) hy (h3 y hy)) hne
    ·rcases hvis with h2|h2
     ·rw[h1] at h2
      cases i with
      |zero=>omega
      |succ i=>simp[Y1] at h2
     ·exact hanc h2
   ·have:=hr.size0;have:=h.bs.size;show G.w0.heap.size≤w.heap.size;omega
   ·intro j b q hb hq hp
    have:=hr.ltg hb
    have h0:=hT.mono i 0 (by omega) (by omega)
    rw[hT.n] at h0
    omega
  unfold wpOpIn
  simp only[ho,hw]
  cases b
  ·simp only[Bool.false_eq_true,if_false]
   obtain ⟨hv,hbs⟩:=hb2 rfl
   have e:(T (i+1)).n=(T i).n:=by rw[hns,hbs];simp
   refine ⟨fun f _=>fK ro f,ih _ _ _ _ (h.step S hT him ho hnd hpr hx g2 g3 (μ':=cut μ (T i).n) (w':=w) (c:=undef) (fun j hj=>if_pos hj) (fun j hj=>if_neg (by omega)) (by rw[hv];rfl) (Below.refl _ _) (fun idx b hb=>by rw[hbs] at hb;simp at hb) (fun idx idx' b b' q q' hb=>by rw[hbs] at hb;simp at hb)) hcnt⟩
  ·simp only[if_true]
   have hps:=hb1 rfl
   rw[hds] at hps
   rcases g4 with ⟨g4,g5⟩|g4
   ·rw[g4] at hps
    refine eN hf hrepi (hE.mono (h.leCut hr (by rw[← hT.n];exact hT.mono i 0 (by omega) (by omega)))) g5 hps ro _ Q fun c w' ⟨μ',m1,m2,m3,m4⟩=>?_
    have w6:∀ idx b,(T i).bs[idx]? =some b→g9 (St.push ⟨k8 s0.heap (eF T i) (W2 A al i),(T i).n,(T i).n⟩ (T i).bs).heap ((T i).n+idx)=some b:=by
     intro idx b hb
     simp only[St.push]
     rw[x7,if_pos ⟨by omega,by have:=EW hb;omega⟩,show (T i).n+idx - (T i).n=idx by omega]
     exact hb
    refine ih _ _ _ _ (h.step S hT him ho hnd hpr hx g2 g3 (μ':=μ') (w':=w') (c:=c) (fun j hj=>?_) (fun j hj=>?_) m2 m4 (fun idx b hb=>?_) (fun idx idx' b b' q q' hb hb' hne hq hq'=>?_)) hcnt
    ·rw[m1.ag j hj];exact if_pos hj
    ·exact m3.dom j (by simp only[St.push];omega)
    ·obtain ⟨q,q1,_,q3,q4⟩:=m3.blk _ _ (w6 idx b hb)
     exact ⟨q,q1,Nat.le_of_not_lt (q3 (by simp only[St.push];omega)),q4⟩
    ·exact m3.sep _ _ b b' q q' (w6 idx b hb) (w6 idx' b' hb') (by omega) hq hq'
   ·rw[g4] at hps
    simp[d6] at hps
where
 pre_done {ro:Option Nat} (hE:r7 P E G.w0 μ0) (S:N5 P N ops al A m) (hT:fB E s0 al A m fr0 T) (hr:D8 G μ0 s0 ws) {Q:Exit→Act→World→Prop}
   (htail:I1 E (al.drop m) (T m).fr ⟨k8 s0.heap (eF T m) [],(T m).n,s0.prot⟩=some (fr',s')) (hQ:mF G N s0 μ0 ds0 fr' s' (Q .normal))
   (fuel:Nat) (l:Array Bool) (a:Act) (w:World) (μ:Mu) (h:J P N G ops al m fr0 s0 μ0 ws ds0 T l a w μ) (hall:∀ i,i<m→B3 l i) (hf:ops.size - m≤fuel):wpAnyIn (FW ro) 0 P .any ops Q fuel l a w:=by
  have hml:m≤al.length:=by rw[S.len];exact S.mle
  have hn0:s0.next≤(T m).n:=by rw[← hT.n];exact hT.mono m 0 (by omega) (Nat.le_refl _)
  have hle0:Mu.le μ0 μ:=fun j q e=>by
   have hj:j<s0.next:=by
    rcases Nat.lt_or_ge j s0.next with h'|h'
    ·exact h'
    ·rw[hr.dom j h'] at e;cases e
   rw[h.low j hj];exact e
  have hrep:=h.rep hT hr (i:=m) (Nat.le_refl _) (mask:= []) (L:= []) (.inl rfl) (fun k hk _ _=>hall k hk) G s0.prot rfl (hr.bp.trans (L1.of h.bs fun k hk=>hr.fxlt hk)) hr.le hr.pr
   (fun j b q hb hq hp=>by obtain ⟨q',q1,_,q3,_⟩:=hr.blk j b hb;rw[hq] at q1;cases q1;exact q3 hp) (.inl fun k hk=>hr.fxlt hk)
  rw[mS h.hi] at hrep
  have hcutle:∀ n,Mu.le (cut μ n) μ:=fun n j q e=>by
   unfold cut at e
   split at e
   ·exact e
   ·cases e
  refine GG S fuel m l (T m).fr _ μ a w (hE.mono hle0) (Nat.le_refl _) S.mle h.sz (fun i hi=>⟨fun hd=>?_,fun him=>hall i him⟩) hf htail ?_ h.tN hrep ?_
  ·rcases Nat.lt_or_ge i m with h'|h'
   ·exact h'
   ·exact absurd hd (h.pre i h')
  ·intro t v' hv
   rcases hT.get hml S.uniq t m (Nat.le_refl _) with ⟨k,y,h1,h2,h3,h4⟩|⟨h1,h2⟩
   ·rw[h4] at hv
    cases hv
    obtain ⟨c',c1,c2⟩:=h.fr1 k y t h1 h2 h3 (hall k h1)
    exact ⟨c',c1,J9 (hcutle _) _ c2⟩
   ·rw[h2] at hv
    obtain ⟨c',c1,c2⟩:=h.fr0' t v' (fun k y hk hy hyt=>absurd hyt (h1 k y hk hy)) hv
    exact ⟨c',c1,J9 hle0 _ c2⟩
  ·rw[h.df]
   intro μ2 a2 w2 hle
   exact hQ μ2 a2 w2 (U0.trans ⟨hle0,hn0,h.low⟩ hle)
theorem uO (n i:Nat):(Array.replicate n false).getD i false=false:=by
 simp only[Array.getD]
 split<;>simp
theorem aQ8 {ro:Option Nat} {id:Nat} {ops:Array Oper} {k:List Nat} {ac:AC} (hc:mP P N ops.toList m k=some ac) {fr:Fr} {s:St} {μ:Mu} {a:Act} {w:World} {Q:Exit→Act→World→Prop} {ex:Ex}
  (hE:r7 P E G.w0 μ) (he:z9 E ac fr s=some (ex,fr',s')) (hf:G5 μ fr a.tmps) (hN:a.tmps.size=N) (hr:D8 G μ s w) (hQ:mF G N s μ a.defers fr' s' (Q .normal)):ex= .normal∧(Code.region id ops true).wpIn (FW ro) 0 P Q a w:=by
 simp only[mP,Option.bind_eq_some_iff] at hc
 obtain ⟨al,hal,hc⟩:=hc
 split at hc
 case isFalse=>cases hc
 rename_i hok
 cases hc
 have S:=CN hal hok
 simp only[z9,Option.bind_eq_some_iff,Option.map_eq_some_iff] at he
 obtain ⟨⟨fr1,ds1,n1⟩,h1,⟨fr2,s2⟩,h2,e⟩:=he
 simp only[Prod.mk.injEq] at e
 obtain ⟨rfl,rfl,rfl⟩:=e
 refine ⟨rfl,?_⟩
 obtain ⟨T,t1,t2,t3,t4,t5,t6,t7⟩:=nZ s _ _ _ _ _ _ _ _ h1
 have hml:m≤al.length:=by rw[S.len];exact S.mle
 have hlen:(al.take m).length=m:=by simp;omega
 rw[hlen] at t5 t6 t7
 have g9:∀ i x,i<m→al[i]? =some x→(al.take m)[i]? =some x:=fun i x hi hx=>by rw[List.getElem?_take,if_pos hi];exact hx
 have hmask:∀ i,i<m→((((List.range m).map (W2 (cS ops.toList []) al))[i]?).getD [])=W2 (cS ops.toList []) al i:=fun i hi=>by simp[hi]
 have hds:∀ i,i≤m→(T i).ds=eF T i:=by
  intro i
  induction i with
  |zero=>intro _;rw[t2];rfl
  |succ i ih=>
   intro hi
   obtain ⟨x,hx⟩:∃ x,al[i]? =some x:=⟨al[i]'(by omega),by simp[show i<al.length by omega]⟩
   rw[(t4 i x (g9 i x (by omega) hx)).2.2.1,ih (by omega)]
   rfl
 have hT:fB E s al (cS ops.toList []) m fr T:=by
  refine ⟨t1,t3,fun i x hi hx=>?_,fun i x hi hx=>(t4 i x (g9 i x hi hx)).2.1,fun i hi=>?_,hds⟩
  ·have:=(t4 i x (g9 i x hi hx)).1
   rw[hmask i hi] at this
   exact this
  ·obtain ⟨x,hx⟩:∃ x,al[i]? =some x:=⟨al[i]'(by omega),by simp[show i<al.length by omega]⟩
   exact (t4 i x (g9 i x hi hx)).2.2.2
 refine wpIn_region_any hE.mix ?_
 have hr':D8 G μ s {w with drawn:=w.drawn+1}:=hr.drew
 refine bH0 hE S hT hr' (ds0:=a.defers) (fr':=fr2) (s':=s2) ?_ (fun μ2 a2 w2 hle hf2=>hQ μ2 a2 w2 hle (hf2.keep k)) ops.size _ a _ μ ?_ ?_
 ·rw[t5,t7,← hds m (Nat.le_refl _),t6]
  exact h2
 ·have hnd:∀ i,¬ B3 (Array.replicate ops.size false) i:=fun i hd=>by unfold B3 at hd;rw[uO] at hd;cases hd
  refine ⟨by simp,fun i o ho hd=>absurd hd (hnd i),fun i _=>hnd i,hN,rfl,fun k x t _ _ _ hd=>absurd hd (hnd k),fun t v _ hv=>hf t v hv,Below.refl _ _,fun j _=>rfl,fun k hk _ j h1 _=>?_,fun j hj=>?_,fun k _ hd=>absurd hd (hnd k),fun k k' _ _ hd=>absurd hd (hnd k)⟩
  ·have:=hT.mono k 0 (by omega) (by omega)
   rw[hT.n] at this
   exact hr.dom j (by omega)
  ·have:=hT.mono m 0 (by omega) (Nat.le_refl _)
   rw[hT.n] at this
   exact hr.dom j (by omega)
 ·have:∀ n,zJ (Array.replicate ops.size false) n≤n:=by
   intro n
   induction n with
   |zero=>simp[zJ]
   |succ n ih=>simp only[zJ];split<;>omega
  exact this _
end Go.Itp
namespace Go.Itp
open Go.RowKit (Below)
variable {P:Program} {E:D9} {G:u9} {s s':St} {w ws w':World} {o:Oper} {a:Act} {fr fr':Fr} {v c:Value} {bs:List w7} {N:Nat}
theorem cA {i:Nat} {l:List Nat}:m8 i l=false↔i ∉ l:=by
 rw[← l8];simp
theorem s9 (l:List Nat) (d:Nat):∀ (h:m0),g9 (A9 l h) d=if m8 d l then g9 h d else none
 | []=>by simp[A9,g9]
 |(j,b)::r=>by
  simp only[A9]
  by_cases hj:d=j
  ·subst hj
   cases he:m8 d l
   ·simp only[Bool.false_eq_true,if_false]
    rw[s9 l d r,he];simp
   ·simp only[if_true]
    rw[m9,m9];simp
  ·cases he:m8 j l
   ·simp only[Bool.false_eq_true,if_false]
    rw[s9 l d r,m9,if_neg hj]
   ·simp only[if_true]
    rw[m9,m9,if_neg hj,s9 l d r]
    simp only[if_neg hj]
theorem L3 (l:List Nat) (d:Nat):∀ (h:m0),g9 (bZ l h) d=if m8 d l then none else g9 h d
 | []=>by simp[bZ,g9]
 |(j,b)::r=>by
  simp only[bZ]
  by_cases hj:d=j
  ·subst hj
   cases he:m8 d l
   ·simp only[Bool.false_eq_true,if_false]
    rw[m9,m9];simp
   ·simp only[if_true]
    rw[L3 l d r,he];simp
  ·cases he:m8 j l
   ·simp only[Bool.false_eq_true,if_false]
    rw[m9,m9,if_neg hj,L3 l d r]
    simp only[if_neg hj]
   ·simp only[if_true]
    rw[L3 l d r,m9,if_neg hj]
theorem W9 (d:Nat) (g:m0):∀ (h:m0),g9 (h++g) d=match g9 h d with|some b=>some b|none=>g9 g d
 | []=>by simp[g9]
 |(j,b)::r=>by
  rw[List.cons_append,m9,m9]
  by_cases hj:d=j
  ·simp[hj]
  ·rw[if_neg hj,if_neg hj,W9 d g r]
theorem nC (d:Nat):∀ (h:m0),pF h d=(g9 h d).isSome
 | []=>rfl
 |(j,b)::r=>by
  rw[m9]
  simp only[pF]
  by_cases hj:d=j
  ·rw[if_pos (j7.2 hj),if_pos hj];rfl
  ·rw[if_neg (by rw[j7];exact hj),if_neg hj,nC d r]
theorem T0 {h:m0} {d:Nat} (hd:d ∉ h.map (·.1)):g9 h d=none:=by
 cases e:g9 h d with
 |none=>rfl
 |some b=>exact absurd (Q3 _ _ _ e) hd
theorem aE7 {h:m0} {d:Nat} (hd:d ∈ h.map (·.1)):∃ b,g9 h d=some b:=by
 induction h with
 |nil=>simp at hd
 |cons x r ih=>
  obtain ⟨j,b⟩:=x
  rw[m9]
  by_cases hj:d=j
  ·exact ⟨b,by rw[if_pos hj]⟩
  ·rw[if_neg hj]
   simp only[List.map_cons,List.mem_cons] at hd
   exact ih (hd.resolve_left hj)
theorem bB (i:Nat):∀ (h:m0) (d:Nat),d ∈ (gF i h).map (·.1)→d ∈ h.map (·.1)∧d ≠ i
 | [],d,hd=>by simp[gF] at hd
 |(j,b)::r,d,hd=>by
  simp only[gF] at hd
  split at hd
  ·obtain ⟨h1,h2⟩:=bB i r d hd
   exact ⟨by simp only[List.map_cons,List.mem_cons];exact .inr h1,h2⟩
  ·rename_i hij
   simp only[List.map_cons,List.mem_cons] at hd ⊢
   rcases hd with rfl|hd
   ·exact ⟨.inl rfl,fun e=>hij (j7.2 e.symm)⟩
   ·obtain ⟨h1,h2⟩:=bB i r d hd
    exact ⟨.inr h1,h2⟩
theorem vF (i:Nat):∀ (h:m0),(h.map (·.1)).Nodup→((gF i h).map (·.1)).Nodup
 | [],_=>by simp[gF]
 |(j,b)::r,hn=>by
  simp only[List.map_cons,List.nodup_cons] at hn
  simp only[gF]
  split
  ·exact vF i r hn.2
  ·simp only[List.map_cons,List.nodup_cons]
   exact ⟨fun hm=>hn.1 (bB i r j hm).1,vF i r hn.2⟩
theorem lK (i d:Nat) (hd:d ≠ i):∀ (h:m0),g9 (gF i h) d=g9 h d
 | []=>rfl
 |(j,b)::r=>by
  simp only[gF]
  split
  ·rename_i hij
   rw[lK i d hd r,m9,if_neg (by rw[← j7.1 hij];exact hd)]
  ·rw[m9,m9,lK i d hd r]
theorem jJ (n m:Nat) (v:m0):∀ (h:m0) (d:Nat),d ∈ (fZ n m v h).map (·.1)→(n≤d∧d<m)∨pF v d=true
 | [],d,hd=>by simp[fZ] at hd
 |(j,b)::r,d,hd=>by
  simp only[fZ] at hd
  split at hd
  ·rename_i hc
   simp only[List.map_cons,List.mem_cons] at hd
   rcases hd with rfl|hd
   ·rw[Bool.or_eq_true,Bool.and_eq_true,Nat.ble_eq,Nat.blt_eq] at hc
    exact hc
   ·exact jJ n m v r d (bB _ _ _ hd).1
  ·exact jJ n m v r d hd
theorem FI (n m:Nat) (v:m0):∀ (h:m0),((fZ n m v h).map (·.1)).Nodup
 | []=>by simp[fZ]
 |(j,b)::r=>by
  simp only[fZ]
  split
  ·simp only[List.map_cons,List.nodup_cons]
   exact ⟨fun hm=>(bB _ _ _ hm).2 rfl,vF _ _ (FI n m v r)⟩
  ·exact FI n m v r
theorem cW (n m:Nat) (v:m0) (d:Nat):∀ (h:m0),g9 (fZ n m v h) d=if (n≤d∧d<m)∨pF v d=true then g9 h d else none
 | []=>by simp[fZ,g9]
 |(j,b)::r=>by
  have ih:=cW n m v d r
  simp only[fZ]
  by_cases hj:d=j
  ·subst hj
   by_cases hc:(n≤d∧d<m)∨pF v d=true
   ·rw[if_pos (by rw[Bool.or_eq_true,Bool.and_eq_true,Nat.ble_eq,Nat.blt_eq];exact hc),if_pos hc,m9,m9,if_pos rfl,if_pos rfl]
   ·rw[if_neg (by rw[Bool.or_eq_true,Bool.and_eq_true,Nat.ble_eq,Nat.blt_eq];exact hc),if_neg hc,ih,if_neg hc]
  ·rw[m9,if_neg hj]
   split
   ·rw[m9,if_neg hj,lK _ _ hj,ih]
   ·exact ih
theorem kB (l:List Nat):∀ (h:m0),((A9 l h).map (·.1)).Sublist (h.map (·.1))
 | []=>by simp[A9]
 |(j,b)::r=>by
  simp only[A9]
  split
  ·simpa using (kB l r)
  ·exact (kB l r).trans (List.sublist_cons_self _ _)
theorem jZ (l:List Nat):∀ (h:m0),((bZ l h).map (·.1)).Sublist (h.map (·.1))
 | []=>by simp[bZ]
 |(j,b)::r=>by
  simp only[bZ]
  split
  ·exact (jZ l r).trans (List.sublist_cons_self _ _)
  ·simpa using (jZ l r)
theorem U4 (V:VS) (h:m0) (d:Nat):g9 (D3 V h) d=if V.has d then g9 h d else none:=by
 cases V with
 |only l=>simp only[D3,VS.has];exact s9 l d h
 |but l=>
  simp only[D3,VS.has]
  rw[L3]
  by_cases he:m8 d l=true
  ·simp[he]
  ·simp[he]
theorem lL (V:VS) (h:m0) (d:Nat):g9 (iO V h) d=if V.has d then none else g9 h d:=by
 cases V with
 |only l=>simp only[iO,VS.has];exact L3 l d h
 |but l=>
  simp only[iO,VS.has]
  rw[s9]
  by_cases he:m8 d l=true
  ·simp[he]
  ·simp[he]
theorem XV (V:VS) (h:m0):((iO V h).map (·.1)).Sublist (h.map (·.1)):=by
 cases V with
 |only l=>exact jZ l h
 |but l=>exact kB l h
theorem CQ (V:VS) (h:m0):((D3 V h).map (·.1)).Sublist (h.map (·.1)):=by
 cases V with
 |only l=>exact kB l h
 |but l=>exact jZ l h
theorem AW:∀ (h:m0),A9 [] h= []
 | []=>rfl
 |(j,b)::r=>by simp[A9,m8,AW r]
theorem oY:∀ (h:m0),bZ [] h=h
 | []=>rfl
 |(j,b)::r=>by simp[bZ,m8,oY r]
theorem bL:∀ (a b:List Nat),GF a b=true↔∀ x ∈ a,x ∈ b
 | [],b=>by simp[GF]
 |x::r,b=>by simp[GF,l8,bL r b]
theorem W7:∀ (a b:List Nat),IK a b=true↔∀ x ∈ a,x ∉ b
 | [],b=>by simp[IK]
 |x::r,b=>by
  simp only[IK,Bool.and_eq_true,Bool.not_eq_eq_eq_not,Bool.not_true,cA,W7 r b,List.mem_cons]
  constructor
  ·rintro ⟨h1,h2⟩ y (rfl|hy)
   ·exact h1
   ·exact h2 y hy
  ·intro h;exact ⟨h x (.inl rfl),fun y hy=>h y (.inr hy)⟩
theorem VS.has_only {l:List Nat} {d:Nat}:(VS.only l).has d=true↔d ∈ l:=l8 d l
theorem VS.has_but {l:List Nat} {d:Nat}:(VS.but l).has d=true↔d ∉ l:=by
 simp only[VS.has,Bool.not_eq_eq_eq_not,Bool.not_true];exact cA
theorem VS.dis_spec {a b:VS} (h:a.dis b=true) {d:Nat} (ha:a.has d=true) (hb:b.has d=true):False:=by
 cases a with
 |only x=>cases b with
  |only y=>exact (W7 x y).1 h d (VS.has_only.1 ha) (VS.has_only.1 hb)
  |but y=>exact VS.has_but.1 hb ((bL x y).1 h d (VS.has_only.1 ha))
 |but x=>cases b with
  |only y=>exact VS.has_but.1 ha ((bL y x).1 h d (VS.has_only.1 hb))
  |but y=>cases h
theorem KP (lo hi:Nat):∀ (l:List Nat),vQ lo hi l=true↔∀ x ∈ l,x<lo∨hi≤x
 | []=>by simp[vQ]
 |x::r=>by simp[vQ,KP lo hi r]
def NW.has:NW→Nat→Prop
 | .fix l,d=>d ∈ l
 | .rng lo hi,d=>lo≤d∧d<hi
theorem NW.out_spec {q:NW} {V:VS} (h:q.out V=true) {d:Nat} (hq:q.has d):V.has d=false:=by
 cases hv:V.has d
 ·rfl
 ·exfalso
  cases q with
  |fix l=>cases V with
   |only b=>exact (W7 l b).1 h d hq (VS.has_only.1 hv)
   |but b=>exact VS.has_but.1 hv ((bL l b).1 h d hq)
  |rng lo hi=>cases V with
   |only b=>
    have:=(KP lo hi b).1 h d (VS.has_only.1 hv)
    simp only[NW.has] at hq
    omega
   |but b=>
    simp only[NW.out,Bool.or_eq_true,Bool.and_eq_true] at h
    simp only[NW.has] at hq
    rcases h with h|⟨h1,h2⟩
    ·have:=j7.1 h;omega
    ·have:=j7.1 h1
     have hd:d=lo:=by omega
     subst hd
     exact VS.has_but.1 hv ((l8 _ _).1 h2)
theorem KE:∀ (bs:List w7) (n d:Nat),n≤d→d<n+bs.length→d ∈ yK n bs
 | [],n,d,h1,h2=>by simp at h2;omega
 |b::r,n,d,h1,h2=>by
  simp only[yK,List.mem_cons]
  by_cases h:d=n
  ·exact .inl h
  ·exact .inr (KE r (n+1) d (by omega) (by simp at h2;omega))
structure TW where
 fr:Fr
 h:m0
 n:Nat
 v:Value
 r:H2
def rG:H2:=⟨.only [],.only [],.fix []⟩
def Eff (E:D9) (p:Nat) (o:j9) (T T':TW):Prop:=
 (∃ bs,d6 E (q9 (r4 o) T.fr) ⟨D3 T.r.v T.h,T.n,T.n⟩ o.op=some (T.v,bs)∧T'.h=w6 T.h T.n bs∧T'.n=T.n+bs.length∧T.r.w= .only []∧T.r.nw= .fix (yK T.n bs))∨
 (∃ d s1 b,T.r.v= .only [d]∧T.r.w= .only [d]∧o9 E (q9 (r4 o) T.fr) ⟨D3 T.r.v T.h,T.n,p⟩ o.op=some (T.v,s1)∧s1.next=T.n∧g9 s1.heap d=some b∧T'.h=A1 T.h d b∧T'.n=T.n)∨
 (∃ s1,T.r.w=T.r.v∧T.r.nw= .rng T.n T'.n∧p≤T.n∧T.n≤T'.n∧o9 E (q9 (r4 o) T.fr) ⟨D3 T.r.v T.h,T.n,p⟩ o.op=some (T.v,s1)∧T'.n=s1.next∧T'.h=fZ T.n T'.n (D3 T.r.v T.h) s1.heap++iO T.r.v T.h)
def QU (E:D9) (p:Nat) (x:qI) (rs:List H2) (T T':TW):Prop:=
 T'.fr=H6 T.fr x.o.dst T.v∧
 ∃ g,wanted (q9 (r4 x.o) T.fr) x.o.guard=some g∧(g=true→Eff E p x.o T T'∧rI rs T.r x.conc=true)∧(g=false→T.v= .tuple #[]∧T'.h=T.h∧T'.n=T.n∧T.r=rG)
theorem vR {V:VS} {h h':m0} {n n':Nat} {r:Option (Value × List w7)} {q:H2} (e:kU V h n r=some (v,h',n',q)):∃ bs,r=some (v,bs)∧h'=w6 h n bs∧n'=n+bs.length∧q=⟨V,.only [],.fix (yK n bs)⟩:=by
 simp only[kU,Option.map_eq_some_iff] at e
 obtain ⟨⟨u,bs⟩,h1,h2⟩:=e
 simp only[Prod.mk.injEq] at h2
 obtain ⟨rfl,rfl,rfl,rfl⟩:=h2
 exact ⟨bs,h1,rfl,rfl,rfl⟩
theorem QJ {op:K8} {V:VS} {f:Fr} {p:Nat} {h h':m0} {n n':Nat} {q:H2} (e:kY E f p op V h n=some (v,h',n',q)):
  (∃ bs,d6 E f ⟨D3 V h,n,n⟩ op=some (v,bs)∧h'=w6 h n bs∧n'=n+bs.length∧q=⟨V,.only [],.fix (yK n bs)⟩)∨
  (∃ s1,q=⟨V,V,.rng n n'⟩∧p≤n∧n≤n'∧o9 E f ⟨D3 V h,n,p⟩ op=some (v,s1)∧n'=s1.next∧h'=fZ n n' (D3 V h) s1.heap++iO V h):=by
 unfold kY at e
 split at e
 ·rename_i r hr
  obtain ⟨bs,h1,h2,h3,h4⟩:=vR e
  cases h1
  exact .inl ⟨bs,hr,h2,h3,h4⟩
 ·split at e
  case isFalse=>cases e
  rename_i hp
  rw[Nat.ble_eq] at hp
  simp only[Option.bind_eq_some_iff] at e
  obtain ⟨⟨u,s1⟩,h1,h2⟩:=e
  simp only at h2
  split at h2
  case isFalse=>cases h2
  rename_i hn
  rw[Nat.ble_eq] at hn
  simp only[Option.some.injEq,Prod.mk.injEq] at h2
  obtain ⟨rfl,rfl,rfl,rfl⟩:=h2
  exact .inr ⟨s1,rfl,hp,hn,h1,rfl,rfl⟩
theorem MQ {op:K8} {a:Operand} {f:Fr} {p:Nat} {h h':m0} {n n':Nat} {q:H2} (e:lW E f p op a h n=some (v,h',n',q)):
  ∃ d s1 b,q=⟨.only [d],.only [d],.fix []⟩∧o9 E f ⟨A9 [d] h,n,p⟩ op=some (v,s1)∧s1.next=n∧g9 s1.heap d=some b∧h'=A1 h d b∧n'=n:=by
 simp only[lW,Option.bind_eq_some_iff] at e
 obtain ⟨u,_,e⟩:=e
 split at e
 ·simp only[Option.bind_eq_some_iff] at e
  obtain ⟨⟨v',s1⟩,h1,e⟩:=e
  simp only at e
  split at e
  case isFalse=>cases e
  rename_i hn
  simp only[Option.map_eq_some_iff] at e
  obtain ⟨b,hb,e⟩:=e
  simp only[Prod.mk.injEq] at e
  obtain ⟨rfl,rfl,rfl,rfl⟩:=e
  exact ⟨_,s1,b,rfl,h1,j7.1 hn,hb,rfl,rfl⟩
 ·cases e
theorem XQ {x:qI} {rs:List H2} {fr0:Fr} {p:Nat} {T T':TW} (e:Q8 E fr0 p x rs (q9 (r4 x.o) T.fr) T.h T.n=some (T.v,T'.h,T'.n,T.r)):Eff E p x.o T T':=by
 unfold Q8 at e
 have pw:∀ (V:VS) (op:K8) (hh:m0),x.o.op=op→hh=D3 V T.h→kU V T.h T.n (d6 E (q9 (r4 x.o) T.fr) ⟨hh,T.n,T.n⟩ op)=some (T.v,T'.h,T'.n,T.r)→Eff E p x.o T T':=by
  intro V op hh ho hv e
  obtain ⟨bs,h1,h2,h3,h4⟩:=vR e
  refine .inl ⟨bs,?_,h2,h3,by rw[h4],by rw[h4]⟩
  rw[h4,ho,← hv];exact h1
 have vw:∀ (V:VS) (op:K8),x.o.op=op→kY E (q9 (r4 x.o) T.fr) p op V T.h T.n=some (T.v,T'.h,T'.n,T.r)→Eff E p x.o T T':=by
  intro V op ho e
  rcases QJ e with ⟨bs,h1,h2,h3,h4⟩|⟨s1,h1,h2,h3,h4,h5,h6⟩
  ·refine .inl ⟨bs,?_,h2,h3,by rw[h4],by rw[h4]⟩
   rw[h4,ho];exact h1
  ·refine .inr (.inr ⟨s1,by rw[h1],by rw[h1],h2,h3,?_,h5,by rw[h1];exact h6⟩)
   rw[h1,ho];exact h4
 split at e
 ·rename_i k q ho
  simp only[Option.bind_eq_some_iff] at e
  obtain ⟨u,_,e⟩:=e
  exact pw (.only (U7 u)) _ _ ho rfl e
 ·rename_i k q u ho
  obtain ⟨d,s1,b,h1,h2,h3,h4,h5,h6⟩:=MQ e
  refine .inr (.inl ⟨d,s1,b,by rw[h1],by rw[h1],?_,h3,h4,h5,h6⟩)
  rw[h1,ho];exact h2
 ·rename_i t u b y z ho
  simp only[Option.bind_eq_some_iff] at e
  obtain ⟨_,_,_,_,e⟩:=e
  exact vw _ _ ho e
 ·rename_i u y z ho
  simp only[Option.bind_eq_some_iff] at e
  obtain ⟨_,_,_,_,e⟩:=e
  exact vw _ _ ho e
 ·split at e
  ·exact pw (.only []) x.o.op _ rfl (AW T.h).symm e
  ·exact vw _ x.o.op rfl e
theorem wH (fr0:Fr) (p:Nat):∀ (pre:List qI) (rs:List H2) (fr:Fr) (h:m0) (n:Nat) (fr':Fr) (h':m0) (n':Nat),sB E fr0 p pre rs fr h n=some (fr',h',n')→
  ∃ T:Nat→TW,(T 0).fr=fr∧(T 0).h=h∧(T 0).n=n∧(∀ (i:Nat) (x:qI),pre[i]? =some x→QU E p x (rs++(List.range i).map fun k=>(T k).r) (T i) (T (i+1)))∧
   (T pre.length).fr=fr'∧(T pre.length).h=h'∧(T pre.length).n=n'
 | [],rs,fr,h,n,fr',h',n',e=>by
  simp[sB] at e
  obtain ⟨rfl,rfl,rfl⟩:=e
  exact ⟨fun _=>⟨fr,h,n,.nilIface,rG⟩,rfl,rfl,rfl,fun i x h=>by simp at h,rfl,rfl,rfl⟩
 |x::l,rs,fr,h,n,fr',h',n',e=>by
  simp only[sB,Option.bind_eq_some_iff] at e
  obtain ⟨g,hg,e⟩:=e
  have key:∀ (v:Value) (h1:m0) (n1:Nat) (r:H2),(g=true→Eff E p x.o ⟨fr,h,n,v,r⟩ ⟨H6 fr x.o.dst v,h1,n1,v,r⟩∧rI rs r x.conc=true)→(g=false→v= .tuple #[]∧h1=h∧n1=n∧r=rG)→
    sB E fr0 p l (rs++ [r]) (H6 fr x.o.dst v) h1 n1=some (fr',h',n')→
    ∃ T:Nat→TW,(T 0).fr=fr∧(T 0).h=h∧(T 0).n=n∧(∀ (i:Nat) (y:qI),(x::l)[i]? =some y→QU E p y (rs++(List.range i).map fun k=>(T k).r) (T i) (T (i+1)))∧
     (T (x::l).length).fr=fr'∧(T (x::l).length).h=h'∧(T (x::l).length).n=n':=by
   intro v h1 n1 r e1 e2 e3
   obtain ⟨T,t1,t2,t3,t4,t5,t6,t7⟩:=wH fr0 p l _ _ _ _ fr' h' n' e3
   refine ⟨fun i=>match i with|0=>⟨fr,h,n,v,r⟩|i+1=>T i,rfl,rfl,rfl,fun i y hy=>?_,t5,t6,t7⟩
   cases i with
   |zero=>
    simp at hy;subst hy
    refine ⟨t1,g,hg,fun hgt=>⟨?_,by simpa using (e1 hgt).2⟩,fun hgf=>?_⟩
    ·have:=(e1 hgt).1
     unfold Eff at this ⊢
     simp only[t2,t3] at this ⊢
     exact this
    ·obtain ⟨a1,a2,a3,a4⟩:=e2 hgf
     exact ⟨a1,t2.trans a2,t3.trans a3,a4⟩
   |succ i=>
    simp at hy
    have:=t4 i y hy
    have e:(rs++ [r]++(List.range i).map fun k=>(T k).r)=rs++(List.range (i+1)).map fun k=>(match k with|0=>(⟨fr,h,n,v,r⟩:TW)|k+1=>T k).r:=by
     rw[List.range_succ_eq_map]
     simp only[List.map_cons,List.map_map,List.append_assoc]
     rfl
    rw[e] at this
    exact this
  cases g
  ·simp only at e
   exact key (.tuple #[]) h n rG (fun e=>by cases e) (fun _=>⟨rfl,rfl,rfl,rfl⟩) e
  ·simp only[Option.bind_eq_some_iff] at e
   obtain ⟨⟨v,h1,n1,r⟩,e1,e⟩:=e
   simp only at e
   split at e
   case isFalse=>cases e
   rename_i hok
   exact key v h1 n1 r (fun _=>⟨XQ (T:=⟨fr,h,n,v,r⟩) (T':=⟨H6 fr x.o.dst v,h1,n1,v,r⟩) e1,hok⟩) (fun e=>by cases e) e
end Go.Itp
namespace Go.Itp
open Go.RowKit (Below)
variable {P:Program} {E:D9} {G:u9} {s s':St} {w ws w':World} {o:Oper} {a:Act} {fr fr':Fr} {v c:Value} {bs:List w7} {N:Nat}
variable {s0:St} {al:List j9} {A:List (List Nat)} {m:Nat} {fr0:Fr} {T:Nat→TW} {ops:Array Oper} {μ μ0 μ':Mu} {ds0:List Deferred} {l:Array Bool}
structure E4 (E:D9) (s0:St) (al:List j9) (A:List (List Nat)) (m:Nat) (fr0:Fr) (T:Nat→TW):Prop where
 fr:(T 0).fr=fr0
 h:(T 0).h=s0.heap
 n:(T 0).n=s0.next
 at_:∀ i x,i<m→al[i]? =some x→(T (i+1)).fr=H6 (T i).fr x.dst (T i).v∧
  ∃ g,wanted (q9 (r4 x) (T i).fr) x.guard=some g∧(g=true→Eff E s0.prot x (T i) (T (i+1)))∧(g=false→(T i).v= .tuple #[]∧(T (i+1)).h=(T i).h∧(T (i+1)).n=(T i).n∧(T i).r=rG)
 ok:∀ i k,i<m→k<i→k ∉ (A[i]?).getD []→(T k).r.ok (T i).r=true
 len:m≤al.length
theorem Z4 (b:w7) (d i:Nat) (hd:d ≠ i):∀ (h:m0),g9 (A1 h i b) d=g9 h d
 | []=>rfl
 |(j,u)::r=>by
  simp only[A1]
  split
  ·rename_i hij
   have:=j7.1 hij
   rw[m9,m9,if_neg (by omega),if_neg (by omega)]
  ·rw[m9,m9,Z4 b d i hd r]
theorem gH {b b':w7} {d:Nat}:∀ (h:m0),g9 (A1 h d b) d=some b'→b'=b∧∃ c,g9 h d=some c
 | [],e=>by simp[A1,g9] at e
 |(j,u)::r,e=>by
  simp only[A1] at e
  split at e
  ·rename_i hij
   have:=j7.1 hij
   subst this
   rw[m9,if_pos rfl] at e
   cases e
   exact ⟨rfl,u,by rw[m9,if_pos rfl]⟩
  ·rename_i hij
   have hne:d ≠ j:=fun e=>hij (j7.2 e)
   rw[m9,if_neg hne] at e
   obtain ⟨h1,c,hc⟩:=gH r e
   exact ⟨h1,c,by rw[m9,if_neg hne];exact hc⟩
theorem E4.cases (h:E4 E s0 al A m fr0 T) {i:Nat} (hi:i<m):(∃ x,al[i]? =some x∧Eff E s0.prot x (T i) (T (i+1)))∨((T (i+1)).h=(T i).h∧(T (i+1)).n=(T i).n∧(T i).r=rG):=by
 have hl:=h.len
 obtain ⟨x,hx⟩:∃ x,al[i]? =some x:=⟨al[i]'(by omega),by simp[show i<al.length by omega]⟩
 obtain ⟨_,g,_,h1,h2⟩:=h.at_ i x hi hx
 cases g
 ·exact .inr (h2 rfl).2
 ·exact .inl ⟨x,hx,h1 rfl⟩
theorem E4.step_le (h:E4 E s0 al A m fr0 T) {i:Nat} (hi:i<m):(T i).n≤(T (i+1)).n:=by
 rcases h.cases hi with ⟨x,_,⟨bs,_,_,e,_⟩|⟨d,s1,b,_,_,_,_,_,_,e⟩|⟨s1,_,_,_,e,_⟩⟩|⟨_,e,_⟩<;>omega
theorem E4.mono (h:E4 E s0 al A m fr0 T):∀ j i,i≤j→j≤m→(T i).n≤(T j).n
 |0,i,h1,_=>by
  have e:i=0:=by omega
  rw[e];exact Nat.le_refl _
 |j+1,i,h1,h2=>by
  by_cases hi:i=j+1
  ·subst hi;exact Nat.le_refl _
  ·have:=h.mono j i (by omega) (by omega)
   have:=h.step_le (i:=j) (by omega)
   omega
theorem E4.keys (h:E4 E s0 al A m fr0 T) (hb:∀ i ∈ s0.heap.map (·.1),i<s0.next) (hn:(s0.heap.map (·.1)).Nodup):∀ i,i≤m→((T i).h.map (·.1)).Nodup∧∀ d ∈ (T i).h.map (·.1),d<(T i).n
 |0,_=>by rw[h.h,h.n];exact ⟨hn,hb⟩
 |i+1,hi=>by
  obtain ⟨h1,h2⟩:=h.keys hb hn i (by omega)
  have hle:=h.step_le (i:=i) (by omega)
  rcases h.cases (i:=i) (by omega) with ⟨x,_,⟨bs,_,e1,e2,_⟩|⟨d,s1,b,_,_,_,_,_,e1,e2⟩|⟨s1,_,_,_,_,_,e2,e1⟩⟩|⟨e1,e2,_⟩
  ·rw[e1,e2]
   refine ⟨nP _ _ _ h1 h2,fun d hd=>?_⟩
   rcases eL _ _ _ d hd with h3|h3
   ·have:=h2 d h3;omega
   ·omega
  ·rw[e1,e2,M7];exact ⟨h1,h2⟩
  ·rw[e1]
   have hv:∀ d,pF (D3 (T i).r.v (T i).h) d=true→(T i).r.v.has d=true∧d<(T i).n:=by
    intro d hd
    rw[nC,U4] at hd
    split at hd
    ·rename_i hh
     obtain ⟨b,hb'⟩:=Option.isSome_iff_exists.1 hd
     exact ⟨hh,h2 d (Q3 _ _ _ hb')⟩
    ·simp at hd
   have hk:∀ d,d ∈ (iO (T i).r.v (T i).h).map (·.1)→(T i).r.v.has d=false∧d<(T i).n:=by
    intro d hd
    obtain ⟨b,hb'⟩:=aE7 hd
    rw[lL] at hb'
    split at hb'
    ·cases hb'
    ·rename_i hh
     exact ⟨by simpa using hh,h2 d (Q3 _ _ _ hb')⟩
   refine ⟨?_,fun d hd=>?_⟩
   ·rw[List.map_append,List.nodup_append]
    refine ⟨FI _ _ _ _,h1.sublist (XV _ _),fun x hx y hy hxy=>?_⟩
    subst hxy
    obtain ⟨k1,k2⟩:=hk x hy
    rcases jJ _ _ _ _ x hx with h3|h3
    ·omega
    ·rw[(hv x h3).1] at k1;cases k1
   ·rw[List.map_append,List.mem_append] at hd
    rcases hd with hd|hd
    ·rcases jJ _ _ _ _ d hd with h3|h3
     ·omega
     ·have:=(hv d h3).2;omega
    ·have:=(hk d hd).2;omega
  ·rw[e1,e2];exact ⟨h1,h2⟩
theorem E4.unt (h:E4 E s0 al A m fr0 T) {i:Nat} (hi:i<m) {d:Nat} (hd:d<(T i).n) (hw:(T i).r.w.has d=false):g9 (T (i+1)).h d=g9 (T i).h d:=by
 rcases h.cases hi with ⟨x,_,⟨bs,_,e1,e2,_⟩|⟨d0,s1,b,_,ew,_,_,_,e1,e2⟩|⟨s1,ew,_,_,_,_,e2,e1⟩⟩|⟨e1,e2,_⟩
 ·rw[e1,x7,if_neg (by omega)]
 ·rw[e1]
  rw[ew] at hw
  refine Z4 _ _ _ ?_ _
  intro e
  subst e
  have:=VS.has_only.2 (List.mem_singleton.2 rfl:d ∈ [d])
  rw[hw] at this
  cases this
 ·rw[ew] at hw
  rw[e1,W9,cW,if_neg,lL,hw]
  ·simp
  ·rw[nC,U4,hw]
   rintro (h3|h3)
   ·omega
   ·simp at h3
 ·rw[e1]
theorem E4.wv (h:E4 E s0 al A m fr0 T) {i:Nat} (hi:i<m) {d:Nat} (hw:(T i).r.w.has d=true):(T i).r.v.has d=true:=by
 rcases h.cases hi with ⟨x,_,⟨bs,_,_,_,ew,_⟩|⟨d0,s1,b,ev,ew,_⟩|⟨s1,ew,_⟩⟩|⟨_,_,e⟩
 ·rw[ew] at hw;cases hw
 ·rw[ew] at hw;rw[ev];exact hw
 ·rw[ew] at hw;exact hw
 ·rw[e] at hw;cases hw
theorem E4.newHas (h:E4 E s0 al A m fr0 T) {i:Nat} (hi:i<m) {d:Nat} (h1:(T i).n≤d) (h2:d<(T (i+1)).n):(T i).r.nw.has d:=by
 rcases h.cases hi with ⟨x,_,⟨bs,_,_,e,_,en⟩|⟨d0,s1,b,_,_,_,_,_,_,e⟩|⟨s1,_,en,_⟩⟩|⟨_,e,_⟩
 ·rw[en];exact KE _ _ _ h1 (by omega)
 ·omega
 ·rw[en];exact ⟨h1,h2⟩
 ·omega
def mE (T:Nat→TW) (i d:Nat):Bool:=(decide (d<(T i).n) && (T i).r.w.has d)||(decide ((T i).n≤d) && decide (d<(T (i+1)).n))
theorem N0 {i d:Nat}:mE T i d=true↔(d<(T i).n∧(T i).r.w.has d=true)∨((T i).n≤d∧d<(T (i+1)).n):=by simp[mE]
def fC (T:Nat→TW) (l:Array Bool) (d:Nat):Nat→Option w7 × Nat
 |0=>(g9 (T 0).h d,(T 0).n)
 |i+1=>if l.getD i false && mE T i d then (g9 (T (i+1)).h d,(T (i+1)).n) else fC T l d i
theorem oU (h:E4 E s0 al A m fr0 T) (l:Array Bool) (d:Nat):∀ i,i≤m→(fC T l d i).2≤(T i).n
 |0,_=>Nat.le_refl _
 |i+1,hi=>by
  have:=oU h l d i (by omega)
  have:=h.step_le (i:=i) (by omega)
  simp only[fC]
  split
  ·exact Nat.le_refl _
  ·omega
theorem mR (h:E4 E s0 al A m fr0 T) (hb:∀ i ∈ s0.heap.map (·.1),i<s0.next) (hn:(s0.heap.map (·.1)).Nodup) (l:Array Bool) (d:Nat):∀ i,i≤m→(∀ k,k<i→mE T k d=true→B3 l k)→(fC T l d i).1=g9 (T i).h d
 |0,_,_=>rfl
 |i+1,hi,hall=>by
  have ih:=mR h hb hn l d i (by omega) fun k hk=>hall k (by omega)
  simp only[fC]
  cases ht:mE T i d
  ·simp only[Bool.and_false,Bool.false_eq_true,if_false]
   rw[ih]
   have ht':¬ ((d<(T i).n∧(T i).r.w.has d=true)∨((T i).n≤d∧d<(T (i+1)).n)):=fun e=>by rw[N0.2 e] at ht;cases ht
   by_cases hd:d<(T i).n
   ·refine (h.unt (by omega) hd ?_).symm
    cases hw:(T i).r.w.has d
    ·rfl
    ·exact absurd (.inl ⟨hd,hw⟩) ht'
   ·have hd2:¬ d<(T (i+1)).n:=fun e=>ht' (.inr ⟨by omega,e⟩)
    rw[T0 fun hk=>hd ((h.keys hb hn i (by omega)).2 d hk),T0 fun hk=>hd2 ((h.keys hb hn (i+1) hi).2 d hk)]
  ·have hdn:=hall i (by omega) ht
   unfold B3 at hdn
   rw[hdn];rfl
theorem tU (l:Array Bool) (d i:Nat):∀ j,i≤j→(∀ k,i≤k→k<j→B3 l k→mE T k d=false)→fC T l d j=fC T l d i
 |0,hi,_=>by rw[show i=0 by omega]
 |j+1,hi,hall=>by
  by_cases hij:i=j+1
  ·subst hij;rfl
  ·simp only[fC]
   rw[if_neg]
   ·exact tU l d i j (by omega) fun k h1 h2=>hall k h1 (by omega)
   ·intro hc
    rw[Bool.and_eq_true] at hc
    have:=hall j (by omega) (by omega) hc.1
    rw[hc.2] at this
    cases this
theorem AK {i j:Nat} (hi:i<l.size):(l.setIfInBounds i true).getD j false=if j=i then true else l.getD j false:=by
 have:=aS (l:=l) (i:=i) (j:=j) hi
 unfold B3 at this
 by_cases hj:j=i
 ·rw[if_pos hj];exact this.2 (.inl hj)
 ·rw[if_neg hj]
  cases h1:(l.setIfInBounds i true).getD j false<;>cases h2:l.getD j false<;>simp[h1,h2,hj] at this ⊢
theorem ZU {i:Nat} (hi:i<l.size) {d:Nat} (ht:mE T i d=false):∀ j,fC T (l.setIfInBounds i true) d j=fC T l d j
 |0=>rfl
 |j+1=>by
  simp only[fC]
  rw[ZU hi ht j,AK hi]
  by_cases hj:j=i
  ·subst hj;rw[ht];simp
  ·rw[if_neg hj]
structure JW (P:Program) (N:Nat) (G:u9) (ops:Array Oper) (al:List j9) (m:Nat) (fr0:Fr) (s0:St) (μ0:Mu) (ds0:List Deferred) (T:Nat→TW) (l:Array Bool) (a:Act) (w:World) (μ:Mu):Prop where
 sz:l.size=ops.size
 cl:DI ops l
 pre:∀ i,m≤i→¬ B3 l i
 tN:a.tmps.size=N
 df:a.defers=ds0
 fr1:∀ k x t,k<m→al[k]? =some x→x.dst=some t→B3 l k→∃ c,a.tmps[t]? =some c∧tr (cut μ (T (k+1)).n) (T k).v=some c
 fr0':∀ t v,(∀ k x,k<m→al[k]? =some x→x.dst=some t→¬ B3 l k)→E7 fr0 t=some v→∃ c,a.tmps[t]? =some c∧tr μ0 v=some c
 b0:Below G.w0.heap.size G.w0 w
 kp:L1 G.fx G.wp w
 low:∀ j,j<s0.next→μ j=μ0 j
 un:∀ k,k<m→¬ B3 l k→∀ j,(T k).n≤j→j<(T (k+1)).n→μ j=none
 hi:∀ j,(T m).n≤j→μ j=none
 blk:∀ d b,(fC T l d m).1=some b→∃ q,μ d=some q∧G.w0.heap.size≤q.blk∧(s0.prot≤d→¬ G.fx q.blk)∧mG (cut μ (fC T l d m).2) w q b
 sep:∀ d d' b b' q q',(fC T l d m).1=some b→(fC T l d' m).1=some b'→d ≠ d'→μ d=some q→μ d'=some q'→q.blk ≠ q'.blk
theorem tV {n j:Nat} {q:yC} (e:cut μ n j=some q):μ j=some q∧j<n:=by
 unfold cut at e
 split at e
 ·exact ⟨e,by assumption⟩
 ·cases e
theorem ED {n j:Nat} (h:j<n):cut μ n j=μ j:=if_pos h
theorem JW.rep (hT:E4 E s0 al A m fr0 T) (hr:D8 G μ0 s0 ws) (h:JW P N G ops al m fr0 s0 μ0 ds0 T l a w μ) {i:Nat} (hi:i≤m) {V:VS} {pr:Nat}
  (hvis:∀ d b,V.has d=true→g9 (T i).h d=some b→(fC T l d m).1=some b∧(fC T l d m).2≤(T i).n)
  (G':u9) (hG:G'.w0=G.w0) (hkp:L1 G'.fx G'.wp w) (hle:G.w0.heap.size≤G'.wp.heap.size) (hpr:pr=G'.pr)
  (hfx:∀ d b q,g9 (D3 V (T i).h) d=some b→μ d=some q→pr≤d→¬ G'.fx q.blk):
  D8 G' (cut μ (T i).n) ⟨D3 V (T i).h,(T i).n,pr⟩ w:=by
 obtain ⟨hnd,hlt⟩:=hT.keys hr.lt hr.nd i hi
 have hv:∀ d b,g9 (D3 V (T i).h) d=some b→V.has d=true∧g9 (T i).h d=some b∧d<(T i).n:=by
  intro d b hb
  rw[U4] at hb
  split at hb
  ·rename_i hh
   exact ⟨hh,hb,hlt d (Q3 _ _ _ hb)⟩
  ·cases hb
 refine ⟨by rw[hG];exact h.b0,hkp,by rw[hG];exact hle,fun d b hd=>?_,fun d d' b b' q q' hd hd' hne hq hq'=>?_,hnd.sublist (CQ V _),fun d hd=>hlt d ((CQ V _).subset hd),fun d hd=>?_,hpr⟩
 ·obtain ⟨h1,h2,h3⟩:=hv d b hd
  obtain ⟨c1,c2⟩:=hvis d b h1 h2
  obtain ⟨q,q1,q2,_,q4⟩:=h.blk d b c1
  exact ⟨q,by rw[ED h3];exact q1,by rw[hG];exact q2,fun hp=>hfx d b q hd q1 hp,q4.mono (EE c2) rfl⟩
 ·obtain ⟨h1,h2,h3⟩:=hv d b hd
  obtain ⟨h1',h2',h3'⟩:=hv d' b' hd'
  exact h.sep d d' b b' q q' (hvis d b h1 h2).1 (hvis d' b' h1' h2').1 hne (tV hq).1 (tV hq').1
 ·unfold cut
  rw[if_neg (by simp only at hd;omega)]
end Go.Itp
namespace Go.Itp
open Go.RowKit (Below)
variable {P:Program} {E:D9} {G:u9} {s s':St} {w ws w':World} {o:Oper} {a:Act} {fr fr':Fr} {v c:Value} {bs:List w7} {N:Nat}
variable {s0:St} {al:List j9} {A:List (List Nat)} {m:Nat} {fr0:Fr} {T:Nat→TW} {ops:Array Oper} {μ μ0 μ':Mu} {ds0:List Deferred} {l:Array Bool}
theorem E4.get (h:E4 E s0 al A m fr0 T) (t:Nat):
  ∀ i,i≤m→(∃ k x,k<i∧al[k]? =some x∧x.dst=some t∧E7 (T i).fr t=some (T k).v)∨((∀ k x,k<i→al[k]? =some x→x.dst ≠ some t)∧E7 (T i).fr t=E7 fr0 t)
 |0,_=> .inr ⟨fun k x hk=>by omega,by rw[h.fr]⟩
 |i+1,hi=>by
  have hl:=h.len
  obtain ⟨x,hx⟩:∃ x,al[i]? =some x:=⟨al[i]'(by omega),by simp[show i<al.length by omega]⟩
  have e:=(h.at_ i x (by omega) hx).1
  by_cases hd:x.dst=some t
  ·left
   refine ⟨i,x,by omega,hx,hd,?_⟩
   rw[e,hd]
   simp[H6,aF]
  ·have e2:E7 (T (i+1)).fr t=E7 (T i).fr t:=by
    rw[e]
    cases hdd:x.dst with
    |none=>rfl
    |some d=>
     simp only[H6,aF]
     rw[if_neg]
     intro e3
     subst e3
     exact hd hdd
   rcases h.get t i (by omega) with ⟨k,y,h1,h2,h3,h4⟩|⟨h1,h2⟩
   ·exact .inl ⟨k,y,by omega,h2,h3,by rw[e2];exact h4⟩
   ·refine .inr ⟨fun k y hk hy=>?_,by rw[e2];exact h2⟩
    by_cases hki:k=i
    ·subst hki;rw[hx] at hy;cases hy;exact hd
    ·exact h1 k y (by omega) hy
theorem JW.frame (S:N5 P N ops al A m) (hT:E4 E s0 al A m fr0 T) (hr:D8 G μ0 s0 ws) (h:JW P N G ops al m fr0 s0 μ0 ds0 T l a w μ) {i:Nat} (hi:i<m) {x:j9} (ho:ops[i]? =some o) (hnd:¬ B3 l i) (hp:∀ k ∈ S1 o,B3 l k) (hx:al[i]? =some x):
  G5 (cut μ (T i).n) (q9 (r4 x) (T i).fr) a.tmps:=by
 intro t v' hv
 have hmem:t ∈ r4 x:=by
  have:∀ (fr:Fr),E7 (q9 (r4 x) fr) t=some v'→t ∈ r4 x:=by
   intro fr
   induction fr with
   |nil=>intro e;simp[q9,E7] at e
   |cons y r ih=>
    obtain ⟨j,u⟩:=y
    intro e
    simp only[q9] at e
    split at e
    ·rename_i hj
     simp only[E7] at e
     split at e
     ·rename_i htj
      rw[j7.1 htj]
      exact (l8 _ _).1 hj
     ·exact ih e
    ·exact ih e
  exact this _ hv
 have hv2:=aU _ _ _ _ hv
 have hmen:t ∈ Z7 x:=by simp[Z7,hmem]
 rcases hT.get t i (by omega) with ⟨k,y,h1,h2,h3,h4⟩|⟨h1,h2⟩
 ·rw[h4] at hv2
  cases hv2
  have hpk:=(S.pair k i (by omega) (by have:=S.mle;omega) y x t h2 hx h3 hmen (by omega)).1
  rw[if_neg (by omega)] at hpk
  have hdk:=N6 S h.cl i o ho hp k hpk
  obtain ⟨c',c1,c2⟩:=h.fr1 k y t (by omega) h2 h3 hdk
  exact ⟨c',c1,J9 (EE (hT.mono i (k+1) (by omega) (by omega))) _ c2⟩
 ·rw[h2] at hv2
  obtain ⟨c',c1,c2⟩:=h.fr0' t v' (fun k y hk hy hyt hdk=>by
   rcases Nat.lt_trichotomy k i with h5|h5|h5
   ·exact h1 k y h5 hy hyt
   ·subst h5;exact hnd hdk
   ·have hpk:=(S.pair k i hk (by have:=S.mle;omega) y x t hy hx hyt hmen (by omega)).1
    rw[if_pos h5] at hpk
    have hks:k<ops.size:=by have:=S.mle;omega
    exact hnd (N6 S h.cl k ops[k] (by simp[hks]) (h.cl k ops[k] (by simp[hks]) hdk) i hpk)) hv2
  refine ⟨c',c1,J9 (fun j q e=>?_) _ c2⟩
  have hj:j<s0.next:=by
   rcases Nat.lt_or_ge j s0.next with h'|h'
   ·exact h'
   ·rw[hr.dom j h'] at e;cases e
  have h0:=hT.mono i 0 (by omega) (by omega)
  rw[hT.n] at h0
  unfold cut
  rw[if_pos (by omega),h.low j hj]
  exact e
theorem JW.vis (S:N5 P N ops al A m) (hT:E4 E s0 al A m fr0 T) (hr:D8 G μ0 s0 ws) (h:JW P N G ops al m fr0 s0 μ0 ds0 T l a w μ) {i:Nat} (hi:i<m) (ho:ops[i]? =some o) (hnd:¬ B3 l i) (hp:∀ k ∈ S1 o,B3 l k):
  ∀ d b,(T i).r.v.has d=true→g9 (T i).h d=some b→(fC T l d m).1=some b∧(fC T l d m).2≤(T i).n:=by
 intro d b hv hb
 have hdn:d<(T i).n:=(hT.keys hr.lt hr.nd i (by omega)).2 d (Q3 _ _ _ hb)
 have e1:fC T l d m=fC T l d i:=by
  refine tU l d i m (by omega) fun k h1 h2 hk=>?_
  by_cases hki:k=i
  ·subst hki;exact absurd hk hnd
  cases ht:mE T k d
  ·rfl
  exfalso
  have hks:k<ops.size:=by have:=S.mle;omega
  have hnot:i ∉ (A[k]?).getD []:=fun hm=>hnd (N6 S h.cl k ops[k] (by simp[hks]) (h.cl k ops[k] (by simp[hks]) hk) i hm)
  have hok:=hT.ok k i h2 (by omega) hnot
  simp only[H2.ok,Bool.and_eq_true] at hok
  rcases N0.1 ht with ⟨_,h4⟩|⟨h3,_⟩
  ·exact VS.dis_spec hok.1.2 h4 hv
  ·have:=hT.mono k i (by omega) (by omega);omega
 rw[e1]
 refine ⟨?_,oU hT l d i (by omega)⟩
 rw[mR hT hr.lt hr.nd l d i (by omega)]
 ·exact hb
 ·intro k hk ht
  by_cases hm:k ∈ (A[i]?).getD []
  ·exact N6 S h.cl i o ho hp k hm
  exfalso
  have hok:=hT.ok i k hi hk hm
  simp only[H2.ok,Bool.and_eq_true] at hok
  rcases N0.1 ht with ⟨_,h4⟩|⟨h3,h4⟩
  ·exact VS.dis_spec hok.1.1 h4 hv
  ·have:=NW.out_spec hok.2 (hT.newHas (by omega) h3 h4)
   rw[hv] at this
   cases this
theorem JW.after (S:N5 P N ops al A m) (hT:E4 E s0 al A m fr0 T) (h:JW P N G ops al m fr0 s0 μ0 ds0 T l a w μ) {i:Nat} (hi:i<m) (hnd:¬ B3 l i) {d:Nat} (ht:mE T i d=true):
  fC T (l.setIfInBounds i true) d m=(g9 (T (i+1)).h d,(T (i+1)).n):=by
 have hil:i<l.size:=by rw[h.sz];have:=S.mle;omega
 have e1:fC T (l.setIfInBounds i true) d m=fC T (l.setIfInBounds i true) d (i+1):=by
  refine tU _ d (i+1) m (by omega) fun k h1 h2 hk=>?_
  rw[aS hil] at hk
  have hk:=hk.resolve_left (by omega)
  cases ht2:mE T k d
  ·rfl
  exfalso
  have hks:k<ops.size:=by have:=S.mle;omega
  have hnot:i ∉ (A[k]?).getD []:=fun hm=>hnd (N6 S h.cl k ops[k] (by simp[hks]) (h.cl k ops[k] (by simp[hks]) hk) i hm)
  have hok:=hT.ok k i h2 (by omega) hnot
  simp only[H2.ok,Bool.and_eq_true] at hok
  have hle:=hT.step_le (i:=i) hi
  have hmo:=hT.mono k (i+1) (by omega) (by omega)
  rcases N0.1 ht2 with ⟨_,h4⟩|⟨h3,_⟩
  ·have hv:=hT.wv h2 h4
   rcases N0.1 ht with ⟨_,h6⟩|⟨h5,h6⟩
   ·exact VS.dis_spec hok.1.1 h6 hv
   ·have:=NW.out_spec hok.2 (hT.newHas hi h5 h6)
    rw[hv] at this
    cases this
  ·rcases N0.1 ht with ⟨h5,_⟩|⟨_,h6⟩<;>omega
 rw[e1]
 simp only[fC]
 rw[AK hil,if_pos rfl,ht]
 rfl
theorem JW.step (S:N5 P N ops al A m) (hT:E4 E s0 al A m fr0 T) (h:JW P N G ops al m fr0 s0 μ0 ds0 T l a w μ) {i:Nat} (hi:i<m) {x:j9} (ho:ops[i]? =some o) (hnd:¬ B3 l i) (hp:∀ k ∈ S1 o,B3 l k)
  (hx:al[i]? =some x) (hd:x.dst=o.dst) (hdN:∀ d,o.dst=some d→d<N)
  (e1:∀ j,j<(T i).n→μ' j=μ j) (e2:∀ j,(T (i+1)).n≤j→μ' j=none) (e3:tr μ' (T i).v=some c) (eb:Below G.w0.heap.size G.w0 w') (ek:L1 G.fx G.wp w')
  (eT:∀ d b,mE T i d=true→g9 (T (i+1)).h d=some b→∃ q,μ' d=some q∧G.w0.heap.size≤q.blk∧(s0.prot≤d→¬ G.fx q.blk)∧mG μ' w' q b)
  (eS:∀ d d' b b' q q',mE T i d=true→mE T i d'=true→g9 (T (i+1)).h d=some b→g9 (T (i+1)).h d'=some b'→d ≠ d'→μ' d=some q→μ' d'=some q'→q.blk ≠ q'.blk)
  (eU:∀ d b q,mE T i d=false→(fC T l d m).1=some b→μ d=some q→w'.heap[q.blk]? =w.heap[q.blk]?)
  (eX:∀ d b q d' b' q',mE T i d=true→g9 (T (i+1)).h d=some b→μ' d=some q→mE T i d'=false→(fC T l d' m).1=some b'→μ d'=some q'→q.blk ≠ q'.blk):
  JW P N G ops al m fr0 s0 μ0 ds0 T (l.setIfInBounds i true) (a.put o.dst c) w' (mix μ μ' (T i).n (T (i+1)).n):=by
 have hil:i<l.size:=by rw[h.sz];have:=S.mle;omega
 have hdone:∀ j,B3 (l.setIfInBounds i true) j↔j=i∨B3 l j:=fun j=>aS hil
 have hcutnew:cut (mix μ μ' (T i).n (T (i+1)).n) (T (i+1)).n=μ':=by
  funext j
  unfold cut
  by_cases h1:j<(T (i+1)).n
  ·rw[if_pos h1]
   by_cases h2:(T i).n≤j
   ·rw[FF ⟨h2,h1⟩]
   ·rw[P0 (by omega),e1 j (by omega)]
  ·rw[if_neg h1,e2 j (by omega)]
 have hμle:∀ n,Mu.le (cut μ n) (cut (mix μ μ' (T i).n (T (i+1)).n) n):=by
  intro n j q e
  unfold cut at*
  split at e
  ·rename_i hj
   rw[if_pos hj]
   by_cases h2:(T i).n≤j∧j<(T (i+1)).n
   ·rw[h.un i hi hnd j h2.1 h2.2] at e;cases e
   ·rw[P0 h2];exact e
  ·cases e
 have hunt:∀ d,mE T i d=false→(mix μ μ' (T i).n (T (i+1)).n) d=μ d:=by
  intro d ht
  refine P0 fun hc=>?_
  rw[N0.2 (.inr hc)] at ht
  cases ht
 have htou:∀ d,mE T i d=true→(mix μ μ' (T i).n (T (i+1)).n) d=μ' d:=by
  intro d ht
  by_cases hc:(T i).n≤d∧d<(T (i+1)).n
  ·exact FF hc
  ·rw[P0 hc]
   rcases N0.1 ht with ⟨h3,_⟩|h3
   ·exact (e1 d h3).symm
   ·exact absurd h3 hc
 have hput:∀ t,o.dst ≠ some t→(a.put o.dst c).tmps[t]? =a.tmps[t]? :=by
  intro t ht
  cases hdd:o.dst with
  |none=>rfl
  |some d=>
   simp only[Act.put]
   exact Array.getElem?_setIfInBounds_ne (fun e=>ht (by rw[hdd,e]))
 have hcase:∀ d b,(fC T (l.setIfInBounds i true) d m).1=some b→(mE T i d=true∧g9 (T (i+1)).h d=some b∧(fC T (l.setIfInBounds i true) d m).2=(T (i+1)).n)∨(mE T i d=false∧(fC T l d m).1=some b∧(fC T (l.setIfInBounds i true) d m).2=(fC T l d m).2):=by
  intro d b hb
  cases ht:mE T i d
  ·right
   rw[ZU hil ht] at hb ⊢
   exact ⟨rfl,hb,rfl⟩
  ·left
   rw[h.after S hT hi hnd ht] at hb ⊢
   exact ⟨rfl,hb,rfl⟩
 refine ⟨by simp[h.sz],?_,?_,by rw[dE];exact h.tN,by rw[U8];exact h.df,?_,?_,eb,ek,?_,?_,?_,?_,?_⟩
 ·intro j o' ho' hj k hk
  rw[hdone] at hj ⊢
  rcases hj with rfl|hj
  ·rw[ho] at ho';cases ho'
   exact .inr (hp k hk)
  ·exact .inr (h.cl j o' ho' hj k hk)
 ·intro j hj hdj
  rw[hdone] at hdj
  rcases hdj with rfl|hdj
  ·omega
  ·exact h.pre j hj hdj
 ·intro k y t hk hy hyt hdk
  by_cases hki:k=i
  ·subst hki
   rw[hx] at hy;cases hy
   rw[hd] at hyt
   refine ⟨c,?_,by rw[hcutnew];exact e3⟩
   have:=hdN t hyt
   simp[Act.put,hyt,show t<a.tmps.size by rw[h.tN];exact this]
  ·rw[hdone] at hdk
   obtain ⟨c',h1,h2⟩:=h.fr1 k y t hk hy hyt (hdk.resolve_left hki)
   refine ⟨c',?_,J9 (hμle _) _ h2⟩
   rw[hput t (fun e=>hki (S.uniq k i y x t hk hi hy hx hyt (by rw[hd];exact e)))]
   exact h1
 ·intro t v' hall hv
  have hnot:o.dst ≠ some t:=fun e=>hall i x hi hx (by rw[hd];exact e) ((hdone i).2 (.inl rfl))
  obtain ⟨c',h1,h2⟩:=h.fr0' t v' (fun k y hk hy hyt hdk=>hall k y hk hy hyt ((hdone k).2 (.inr hdk))) hv
  exact ⟨c',by rw[hput t hnot];exact h1,h2⟩
 ·intro j hj
  have h0:=hT.mono i 0 (by omega) (by omega)
  rw[hT.n] at h0
  rw[P0 (by omega)]
  exact h.low j hj
 ·intro k hk hdk j h1 h2
  have hki:k ≠ i:=fun e=>hdk ((hdone k).2 (.inl e))
  rw[P0]
  ·exact h.un k hk (fun e=>hdk ((hdone k).2 (.inr e))) j h1 h2
  ·rintro ⟨h3,h4⟩
   rcases Nat.lt_or_gt_of_ne hki with h5|h5
   ·have:=hT.mono i (k+1) (by omega) (by omega);omega
   ·have:=hT.mono k (i+1) (by omega) (by omega);omega
 ·intro j hj
  have:=hT.mono m (i+1) (by omega) (Nat.le_refl _)
  rw[P0 (by omega)]
  exact h.hi j hj
 ·intro d b hb
  rcases hcase d b hb with ⟨ht,h1,h2⟩|⟨ht,h1,h2⟩
  ·obtain ⟨q,q1,q2,q3,q4⟩:=eT d b ht h1
   exact ⟨q,by rw[htou d ht];exact q1,q2,q3,by rw[h2,hcutnew];exact q4⟩
  ·obtain ⟨q,q1,q2,q3,q4⟩:=h.blk d b h1
   exact ⟨q,by rw[hunt d ht];exact q1,q2,q3,by rw[h2];exact q4.mono (hμle _) (eU d b q ht h1 q1)⟩
 ·intro d d' b b' q q' hb hb' hne hq hq'
  rcases hcase d b hb with ⟨ht,h1,_⟩|⟨ht,h1,_⟩
  ·rw[htou d ht] at hq
   rcases hcase d' b' hb' with ⟨ht',h1',_⟩|⟨ht',h1',_⟩
   ·rw[htou d' ht'] at hq'
    exact eS d d' b b' q q' ht ht' h1 h1' hne hq hq'
   ·rw[hunt d' ht'] at hq'
    exact eX d b q d' b' q' ht h1 hq ht' h1' hq'
  ·rw[hunt d ht] at hq
   rcases hcase d' b' hb' with ⟨ht',h1',_⟩|⟨ht',h1',_⟩
   ·rw[htou d' ht'] at hq'
    exact Ne.symm (eX d' b' q' d b q ht' h1' hq' ht h1 hq)
   ·rw[hunt d' ht'] at hq'
    exact h.sep d d' b b' q q' h1 h1' hne hq hq'
end Go.Itp
namespace Go.Itp
open Go.RowKit (Below)
variable {P:Program} {E:D9} {G:u9} {s s':St} {w ws w':World} {o:Oper} {a:Act} {fr fr':Fr} {v c:Value} {bs:List w7} {N:Nat}
variable {s0:St} {al:List j9} {A:List (List Nat)} {m:Nat} {fr0:Fr} {T:Nat→TW} {ops:Array Oper} {μ μ0 μ':Mu} {ds0:List Deferred} {l:Array Bool}
def JQ (w0 w:World) (p:Nat) (μ:Mu) (h:m0):u9:=
 ⟨w0,w,p,fun k=>k<w.heap.size∧∀ d b q,g9 h d=some b→μ d=some q→p≤d→q.blk ≠ k,fun _ h=>h.1⟩
theorem JW.wrote (S:N5 P N ops al A m) (hT:E4 E s0 al A m fr0 T) (hr:D8 G μ0 s0 ws) (h:JW P N G ops al m fr0 s0 μ0 ds0 T l a w μ) {i:Nat} (hi:i<m) {x:j9} (ho:ops[i]? =some o) (hnd:¬ B3 l i) (hp:∀ k ∈ S1 o,B3 l k)
  (hx:al[i]? =some x) (hd:x.dst=o.dst) (hdN:∀ d,o.dst=some d→d<N)
  {s1:St} (hw:Q0 (JQ G.w0 w s0.prot μ (D3 (T i).r.v (T i).h)) (cut μ (T i).n) ⟨D3 (T i).r.v (T i).h,(T i).n,s0.prot⟩ (T i).v s1 c w') (hnx:s1.next=(T (i+1)).n)
  (f1:∀ d b,mE T i d=true→g9 (T (i+1)).h d=some b→g9 s1.heap d=some b∧(((T i).n≤d∧s0.prot≤d)∨∃ b0,g9 (D3 (T i).r.v (T i).h) d=some b0))
  (f2:∀ d b,g9 (D3 (T i).r.v (T i).h) d=some b→mE T i d=true):
  ∃ μ2,JW P N G ops al m fr0 s0 μ0 ds0 T (l.setIfInBounds i true) (a.put o.dst c) w' μ2:=by
 obtain ⟨μ',m1,m2,m3⟩:=hw
 have hvis:=h.vis S hT hr hi ho hnd hp
 have hview:∀ d b,g9 (D3 (T i).r.v (T i).h) d=some b→(fC T l d m).1=some b∧d<(T i).n:=by
  intro d b hb
  rw[U4] at hb
  split at hb
  ·rename_i hh
   exact ⟨(hvis d b hh hb).1,(hT.keys hr.lt hr.nd i (by omega)).2 d (Q3 _ _ _ hb)⟩
  ·cases hb
 have hfx:∀ d b q,mE T i d=false→(fC T l d m).1=some b→μ d=some q→(JQ G.w0 w s0.prot μ (D3 (T i).r.v (T i).h)).fx q.blk:=by
  intro d b q ht hb hq
  obtain ⟨q',q1,_,_,q4⟩:=h.blk d b hb
  rw[hq] at q1;cases q1
  refine ⟨q4.lt,fun d1 b1 q1 h1 h2 _=>?_⟩
  have hne:d1 ≠ d:=fun e=>by
   subst e
   rw[f2 d1 b1 h1] at ht
   cases ht
  exact h.sep d1 d b1 b q1 q (hview d1 b1 h1).1 hb hne h2 hq
 have hsub:∀ k,G.fx k→(JQ G.w0 w s0.prot μ (D3 (T i).r.v (T i).h)).fx k:=by
  intro k hk
  refine ⟨Nat.lt_of_lt_of_le (G.fl k hk) h.kp.size,fun d b q h1 h2 h3 e=>?_⟩
  obtain ⟨q',q1,_,q3,_⟩:=h.blk d b (hview d b h1).1
  rw[h2] at q1;cases q1
  rw[e] at q3
  exact q3 h3 hk
 have hag:∀ j,j<(T i).n→μ' j=μ j:=fun j hj=>by rw[m1.ag j hj];exact ED hj
 have hpr:s1.prot=s0.prot:=m3.pr
 refine ⟨_,h.step S hT hi ho hnd hp hx hd hdN (μ':=μ') hag (fun j hj=>m3.dom j (by rw[hnx];exact hj)) m2 m3.b0 (h.kp.trans (m3.bp.mono hsub)) ?_ ?_ ?_ ?_⟩
 ·intro d b ht hb
  obtain ⟨q,q1,q2,q3,q4⟩:=m3.blk d b (f1 d b ht hb).1
  exact ⟨q,q1,q2,fun hp hk=>q3 (by rw[hpr];exact hp) (hsub _ hk),q4⟩
 ·intro d d' b b' q q' ht ht' hb hb' hne hq hq'
  exact m3.sep d d' b b' q q' (f1 d b ht hb).1 (f1 d' b' ht' hb').1 hne hq hq'
 ·intro d b q ht hb hq
  exact m3.bp.block _ (hfx d b q ht hb hq)
 ·intro d b q d' b' q' ht hb hq ht' hb' hq'
  obtain ⟨g1,g2|⟨b0,g2⟩⟩:=f1 d b ht hb
  ·obtain ⟨p,p1,_,p3,_⟩:=m3.blk d b g1
   rw[hq] at p1;cases p1
   exact fun e=>p3 (by rw[hpr];exact g2.2) (by rw[e];exact hfx d' b' q' ht' hb' hq')
  ·obtain ⟨k1,k2⟩:=hview d b0 g2
   have hne:d ≠ d':=fun e=>by subst e;rw[ht] at ht';cases ht'
   rw[hag d k2] at hq
   exact h.sep d d' b0 b' q q' k1 hb' hne hq hq'
theorem JW.le0 (h:JW P N G ops al m fr0 s0 μ0 ds0 T l a w μ) (hr:D8 G μ0 s0 ws):Mu.le μ0 μ:=fun j q e=>by
 have hj:j<s0.next:=by
  rcases Nat.lt_or_ge j s0.next with h'|h'
  ·exact h'
  ·rw[hr.dom j h'] at e;cases e
 rw[h.low j hj];exact e
theorem JW.leCut (h:JW P N G ops al m fr0 s0 μ0 ds0 T l a w μ) (hr:D8 G μ0 s0 ws) {n:Nat} (hn:s0.next≤n):Mu.le μ0 (cut μ n):=fun j q e=>by
 have hj:j<s0.next:=by
  rcases Nat.lt_or_ge j s0.next with h'|h'
  ·exact h'
  ·rw[hr.dom j h'] at e;cases e
 unfold cut
 rw[if_pos (by omega),h.low j hj];exact e
theorem aT6 {ro:Option Nat} (hE:r7 P E G.w0 μ0) (S:N5 P N ops al A m) (hT:E4 E s0 al A m fr0 T) (hr:D8 G μ0 s0 ws) {Q:Exit→Act→World→Prop}
  (htail:I1 E (al.drop m) (T m).fr ⟨(T m).h,(T m).n,s0.prot⟩=some (fr',s')) (hQ:mF G N s0 μ0 ds0 fr' s' (Q .normal)):
  ∀ (fuel:Nat) (l:Array Bool) (a:Act) (w:World) (μ:Mu),JW P N G ops al m fr0 s0 μ0 ds0 T l a w μ→zJ l ops.size≤fuel→wpAnyIn (FW ro) 0 P .any ops Q fuel l a w:=by
 have hml:m≤al.length:=by rw[S.len];exact S.mle
 intro fuel
 induction fuel with
 |zero=>
  intro l a w μ h hc
  have hno:∀ i,i<ops.size→B3 l i:=by
   intro i hi
   refine Classical.byContradiction fun hd=>?_
   have:=sG (l:=l) ops.size i hi hd
   omega
  have hms:m=ops.size:=by
   rcases Nat.lt_or_ge m ops.size with h'|h'
   ·exact absurd (hno m h') (h.pre m (Nat.le_refl _))
   ·have:=S.mle;omega
  exact pre_done hE S hT hr htail hQ 0 l a w μ h (fun i hi=>hno i (by omega)) (by omega)
 |succ fuel ih=>
  intro l a w μ h hc
  by_cases hall:∀ i,i<m→B3 l i
  ·exact pre_done hE S hT hr htail hQ (fuel+1) l a w μ h hall (by
    have:=EB (l:=l) m ops.size fun i hi _=>h.pre i hi
    omega)
  obtain ⟨i0,hi0,hnd0⟩:∃ i,i<m∧¬ B3 l i:=by
   refine Classical.byContradiction fun hn=>hall fun i hi=>Classical.byContradiction fun hd=>hn ⟨i,hi,hd⟩
  refine ⟨fun hnil=>absurd (sZ S h.sz hnil i0 (by have:=S.mle;omega)) hnd0,fun i hi=>?_⟩
  obtain ⟨o,ho,hnd,hpr⟩:=(U9 h.sz).1 hi
  have hio:i<ops.size:=by
   rcases Nat.lt_or_ge i ops.size with h'|h'
   ·exact h'
   ·simp[Array.getElem?_eq_none h'] at ho
  have him:i<m:=by
   rcases Nat.lt_or_ge i m with h'|h'
   ·exact h'
   ·exact absurd (N6 S h.cl i o ho hpr i0 (S.tail i0 i h' hio (by omega))) hnd0
  obtain ⟨x,hx,hxr⟩:=(T1 _ _ _ S.res).2 i o (by simpa using ho)
  obtain ⟨g1,g2,g3,g4⟩:=aA hxr
  have hf:=h.frame S hT hr him ho hnd hpr hx
  obtain ⟨_,g,hb,hb1,hb2⟩:=hT.at_ i x him hx
  have hw:=kG hf g1 hb
  have hsz:i<l.size:=by rw[h.sz];exact hio
  have hcnt:zJ (l.setIfInBounds i true) ops.size≤fuel:=by
   have:=(EC hsz hnd ops.size).1 hio
   omega
  have hvis:=h.vis S hT hr him ho hnd hpr
  have hkeys:=hT.keys hr.lt hr.nd i (by omega)
  have hview:∀ d b,g9 (D3 (T i).r.v (T i).h) d=some b→(T i).r.v.has d=true∧g9 (T i).h d=some b∧d<(T i).n:=by
   intro d b hb
   rw[U4] at hb
   split at hb
   ·rename_i hh
    exact ⟨hh,hb,hkeys.2 d (Q3 _ _ _ hb)⟩
   ·cases hb
  unfold wpOpIn
  simp only[ho,hw]
  cases g
  ·simp only[Bool.false_eq_true,if_false]
   obtain ⟨hv,hh,hn,hrr⟩:=hb2 rfl
   have hnt:∀ d,mE T i d=false:=by
    intro d
    cases ht:mE T i d
    ·rfl
    ·rcases N0.1 ht with ⟨_,h2⟩|h2
     ·rw[hrr] at h2;cases h2
     ·omega
   refine ⟨fun f _=>fK ro f,ih _ _ _ _ (h.step S hT him ho hnd hpr hx g2 g3 (μ':=cut μ (T i).n) (w':=w) (c:=undef) (fun j hj=>ED hj) (fun j hj=>if_neg (by omega)) (by rw[hv];rfl) h.b0 h.kp (fun d b ht=>by rw[hnt d] at ht;cases ht) (fun d d' b b' q q' ht=>by rw[hnt d] at ht;cases ht) (fun d b q _ _ _=>rfl) (fun d b q d' b' q' ht=>by rw[hnt d] at ht;cases ht)) hcnt⟩
  ·simp only[if_true]
   have hrw:∀ (s1:St),o9 E (q9 (r4 x) (T i).fr) ⟨D3 (T i).r.v (T i).h,(T i).n,s0.prot⟩ x.op=some ((T i).v,s1)→s1.next=(T (i+1)).n→
     (∀ d b,mE T i d=true→g9 (T (i+1)).h d=some b→g9 s1.heap d=some b∧(((T i).n≤d∧s0.prot≤d)∨∃ b0,g9 (D3 (T i).r.v (T i).h) d=some b0))→
     (∀ d b,g9 (D3 (T i).r.v (T i).h) d=some b→mE T i d=true)→o.wpIn (FW ro) 0 P a w (fun a' w'=>wpAnyIn (FW ro) 0 P .any ops Q fuel (l.setIfInBounds i true) a' w') Q:=by
    intro s1 hws hnx f1 f2
    rcases g4 with ⟨g4,g5⟩|g4
    ·rw[g4] at hws
     have hrepi:D8 (JQ G.w0 w s0.prot μ (D3 (T i).r.v (T i).h)) (cut μ (T i).n) ⟨D3 (T i).r.v (T i).h,(T i).n,s0.prot⟩ w:=
      h.rep hT hr (by omega) hvis (JQ G.w0 w s0.prot μ (D3 (T i).r.v (T i).h)) rfl (L1.refl _ _) h.b0.size rfl fun d b q h1 h2 h3 hk=>hk.2 d b q h1 h2 h3 rfl
     refine oG hf hrepi (hE.mono (h.leCut hr (by rw[← hT.n];exact hT.mono i 0 (by omega) (by omega)))) g5 hws ro _ Q fun c w' hpost=>?_
     obtain ⟨μ2,hJ⟩:=h.wrote S hT hr him ho hnd hpr hx g2 g3 hpost hnx f1 f2
     exact ih _ _ _ _ hJ hcnt
    ·rw[g4] at hws
     simp[o9] at hws
   rcases hb1 rfl with ⟨bs,hps,eh,en,ew,_⟩|⟨d0,s1,b,ev,ew,hws,e1,e2,e3,e4⟩|⟨s1,ew,_,hp0,hnn,hws,e1,e2⟩
   ·rcases g4 with ⟨g4,g5⟩|g4
    ·rw[g4] at hps
     have hrepi:D8 (uK G.w0 w (T i).n) (cut μ (T i).n) ⟨D3 (T i).r.v (T i).h,(T i).n,(T i).n⟩ w:=
      h.rep hT hr (by omega) hvis (uK G.w0 w (T i).n) rfl (L1.refl _ _) h.b0.size rfl fun d b q h1 _ h3=>by have:=(hview d b h1).2.2;omega
     refine eN hf hrepi (hE.mono (h.leCut hr (by rw[← hT.n];exact hT.mono i 0 (by omega) (by omega)))) g5 hps ro _ Q fun c w' ⟨μ',m1,m2,m3,m4⟩=>?_
     have htn:∀ d,mE T i d=true→(T i).n≤d∧d<(T (i+1)).n:=by
      intro d ht
      rcases N0.1 ht with ⟨_,h2⟩|h2
      ·rw[ew] at h2;cases h2
      ·exact h2
     have hnew:∀ d b,mE T i d=true→g9 (T (i+1)).h d=some b→g9 (St.push ⟨D3 (T i).r.v (T i).h,(T i).n,(T i).n⟩ bs).heap d=some b:=by
      intro d b ht hb
      have:=htn d ht
      rw[eh,x7,if_pos (by omega)] at hb
      simp only[St.push]
      rw[x7,if_pos (by omega)]
      exact hb
     refine ih _ _ _ _ (h.step S hT him ho hnd hpr hx g2 g3 (μ':=μ') (w':=w') (c:=c) (fun j hj=>by rw[m1.ag j hj];exact ED hj) (fun j hj=>m3.dom j (by simp only[St.push];omega)) m2 m3.b0 (h.kp.trans (L1.of m4 fun k hk=>Nat.lt_of_lt_of_le (G.fl k hk) h.kp.size)) (fun d b ht hb=>?_) (fun d d' b b' q q' ht ht' hb hb' hne hq hq'=>?_) (fun d b q _ hb hq=>?_) (fun d b q d' b' q' ht hb hq _ hb' hq'=>?_)) hcnt
     ·obtain ⟨q,q1,q2,q3,q4⟩:=m3.blk d b (hnew d b ht hb)
      have hge:=Nat.le_of_not_lt (q3 (by simp only[St.push];exact (htn d ht).1))
      exact ⟨q,q1,q2,fun _ hk=>by have:=G.fl _ hk;have:=h.kp.size;omega,q4⟩
     ·exact m3.sep d d' b b' q q' (hnew d b ht hb) (hnew d' b' ht' hb') hne hq hq'
     ·obtain ⟨q',q1,_,_,q4⟩:=h.blk d b hb
      rw[hq] at q1;cases q1
      exact m4.block _ q4.lt
     ·obtain ⟨p,p1,_,p3,_⟩:=m3.blk d b (hnew d b ht hb)
      rw[hq] at p1;cases p1
      have hge:=Nat.le_of_not_lt (p3 (by simp only[St.push];exact (htn d ht).1))
      obtain ⟨q2,q1,_,_,q4⟩:=h.blk d' b' hb'
      rw[hq'] at q1;cases q1
      have:=q4.lt
      omega
    ·rw[g4] at hps
     simp[d6] at hps
   ·refine hrw s1 hws (by omega) (fun d b' ht hb'=>?_) (fun d b' hb'=>?_)
    ·have hd0:d=d0:=by
      rcases N0.1 ht with ⟨_,h2⟩|h2
      ·rw[ew] at h2
       exact List.mem_singleton.1 (VS.has_only.1 h2)
      ·omega
     subst hd0
     rw[e3] at hb'
     obtain ⟨rfl,b0,hb0⟩:=gH _ hb'
     refine ⟨e2,.inr ⟨b0,?_⟩⟩
     rw[U4,ev,if_pos (VS.has_only.2 (List.mem_singleton.2 rfl))]
     exact hb0
    ·obtain ⟨h1,_,h3⟩:=hview d b' hb'
     rw[ev] at h1
     exact N0.2 (.inl ⟨h3,by rw[ew];exact h1⟩)
   ·refine hrw s1 hws (by omega) (fun d b' ht hb'=>?_) (fun d b' hb'=>?_)
    ·rw[e2,W9] at hb'
     have hkl:g9 (iO (T i).r.v (T i).h) d=none:=by
      rw[lL]
      split
      ·rfl
      ·rename_i hD
       rcases N0.1 ht with ⟨_,h2⟩|⟨h2,_⟩
       ·rw[ew] at h2
        exact absurd h2 hD
       ·exact T0 fun hk=>by have:=hkeys.2 d hk;omega
     rw[hkl] at hb'
     have hb2:g9 (fZ (T i).n (T (i+1)).n (D3 (T i).r.v (T i).h) s1.heap) d=some b':=by
      split at hb'
      ·rename_i b2 h2;cases hb';exact h2
      ·cases hb'
     rw[cW] at hb2
     split at hb2
     ·rename_i hc
      refine ⟨hb2,?_⟩
      rcases hc with hc|hc
      ·exact .inl ⟨hc.1,by omega⟩
      ·right
       rw[nC] at hc
       obtain ⟨b0,hb0⟩:=Option.isSome_iff_exists.1 hc
       exact ⟨b0,hb0⟩
     ·cases hb2
    ·obtain ⟨h1,_,h3⟩:=hview d b' hb'
     exact N0.2 (.inl ⟨h3,by rw[ew];exact h1⟩)
where
 pre_done {ro:Option Nat} (hE:r7 P E G.w0 μ0) (S:N5 P N ops al A m) (hT:E4 E s0 al A m fr0 T) (hr:D8 G μ0 s0 ws) {Q:Exit→Act→World→Prop}
   (htail:I1 E (al.drop m) (T m).fr ⟨(T m).h,(T m).n,s0.prot⟩=some (fr',s')) (hQ:mF G N s0 μ0 ds0 fr' s' (Q .normal))
   (fuel:Nat) (l:Array Bool) (a:Act) (w:World) (μ:Mu) (h:JW P N G ops al m fr0 s0 μ0 ds0 T l a w μ) (hall:∀ i,i<m→B3 l i) (hf:ops.size - m≤fuel):wpAnyIn (FW ro) 0 P .any ops Q fuel l a w:=by
  have hn0:s0.next≤(T m).n:=by rw[← hT.n];exact hT.mono m 0 (by omega) (Nat.le_refl _)
  have hle0:Mu.le μ0 μ:=fun j q e=>by
   have hj:j<s0.next:=by
    rcases Nat.lt_or_ge j s0.next with h'|h'
    ·exact h'
    ·rw[hr.dom j h'] at e;cases e
   rw[h.low j hj];exact e
  have hv:D3 (.but []) (T m).h=(T m).h:=oY _
  have hrep:=h.rep hT hr (i:=m) (Nat.le_refl _) (V:= .but []) (pr:=s0.prot) (fun d b _ hb=>by
    refine ⟨?_,oU hT l d m (Nat.le_refl _)⟩
    rw[mR hT hr.lt hr.nd l d m (Nat.le_refl _) fun k hk _=>hall k hk]
    exact hb) G rfl h.kp hr.le hr.pr (fun d b q hb hq hp=>by
    rw[hv] at hb
    have hc:(fC T l d m).1=some b:=by
     rw[mR hT hr.lt hr.nd l d m (Nat.le_refl _) fun k hk _=>hall k hk]
     exact hb
    obtain ⟨q',q1,_,q3,_⟩:=h.blk d b hc
    rw[hq] at q1;cases q1
    exact q3 hp)
  rw[mS h.hi,hv] at hrep
  have hcutle:∀ n,Mu.le (cut μ n) μ:=fun n j q e=>(tV e).1
  refine GG S fuel m l (T m).fr _ μ a w (hE.mono hle0) (Nat.le_refl _) S.mle h.sz (fun i hi=>⟨fun hd=>?_,fun him=>hall i him⟩) hf htail ?_ h.tN hrep ?_
  ·rcases Nat.lt_or_ge i m with h'|h'
   ·exact h'
   ·exact absurd hd (h.pre i h')
  ·intro t v' hv
   rcases hT.get t m (Nat.le_refl _) with ⟨k,y,h1,h2,h3,h4⟩|⟨h1,h2⟩
   ·rw[h4] at hv
    cases hv
    obtain ⟨c',c1,c2⟩:=h.fr1 k y t h1 h2 h3 (hall k h1)
    exact ⟨c',c1,J9 (hcutle _) _ c2⟩
   ·rw[h2] at hv
    obtain ⟨c',c1,c2⟩:=h.fr0' t v' (fun k y hk hy hyt=>absurd hyt (h1 k y hk hy)) hv
    exact ⟨c',c1,J9 hle0 _ c2⟩
  ·rw[h.df]
   intro μ2 a2 w2 hle
   exact hQ μ2 a2 w2 (U0.trans ⟨hle0,hn0,h.low⟩ hle)
theorem vO {rs:List H2} {q:H2}:∀ (l:List Nat),rI rs q l=true→∀ k ∈ l,∃ p,rs[k]? =some p∧p.ok q=true
 | [],_,k,hk=>by cases hk
 |j::r,h,k,hk=>by
  simp only[rI,Bool.and_eq_true] at h
  rcases List.mem_cons.1 hk with rfl|hk
  ·have h1:=h.1
   rw[z8] at h1
   cases e:rs[k]? with
   |none=>rw[e] at h1;cases h1
   |some p=>rw[e] at h1;exact ⟨p,rfl,h1⟩
  ·exact vO r h.2 k hk
theorem aF7 (q:H2):q.ok rG=true:=by
 simp only[H2.ok,rG,Bool.and_eq_true]
 refine ⟨⟨?_,?_⟩,?_⟩
 ·cases q.w with
  |only l=>exact (W7 l []).2 (by simp)
  |but l=>rfl
 ·cases q.v with
  |only l=>rfl
  |but l=>rfl
 ·cases q.nw with
  |fix l=>exact (W7 l []).2 (by simp)
  |rng lo hi=>rfl
theorem aA1 {ro:Option Nat} {id:Nat} {ops:Array Oper} {pre0:List qI} {k:List Nat} {ac:AC} (hc:jC P N ops.toList pre0 k=some ac) {fr:Fr} {s:St} {μ:Mu} {a:Act} {w:World} {Q:Exit→Act→World→Prop} {ex:Ex}
  (hE:r7 P E G.w0 μ) (he:z9 E ac fr s=some (ex,fr',s')) (hf:G5 μ fr a.tmps) (hN:a.tmps.size=N) (hr:D8 G μ s w) (hQ:mF G N s μ a.defers fr' s' (Q .normal)):ex= .normal∧(Code.region id ops true).wpIn (FW ro) 0 P Q a w:=by
 simp only[jC,Option.bind_eq_some_iff] at hc
 obtain ⟨al,hal,hc⟩:=hc
 split at hc
 case isFalse=>cases hc
 rename_i hok
 cases hc
 have S:=CN hal hok
 generalize hm:pre0.length=m at*
 simp only[z9,Option.bind_eq_some_iff,Option.map_eq_some_iff] at he
 obtain ⟨⟨fr1,h1,n1⟩,hrun,⟨fr2,s2⟩,h2,e⟩:=he
 simp only[Prod.mk.injEq] at e
 obtain ⟨rfl,rfl,rfl⟩:=e
 refine ⟨rfl,?_⟩
 obtain ⟨T,t1,t2,t3,t4,t5,t6,t7⟩:=wH fr s.prot _ _ _ _ _ _ _ _ hrun
 have hml:m≤al.length:=by rw[S.len];exact S.mle
 rw[List.length_map,List.length_range] at t5 t6 t7
 have hgx:∀ i x,i<m→al[i]? =some x→∃ y:qI,((List.range m).map fun i=>(⟨(B7 al i).getD ⟨none,none,.bad⟩,(List.range i).filter fun k=> !yD (cS ops.toList []) k i,(B7 pre0 i).bind (·.hint)⟩:qI))[i]? =some y∧y.o=x∧y.conc=(List.range i).filter fun k=> !yD (cS ops.toList []) k i:=by
  intro i x hi hx
  refine ⟨_,by simp[hi];rfl,?_,rfl⟩
  rw[z8,hx];rfl
 have hT:E4 E s al (cS ops.toList []) m fr T:=by
  refine ⟨t1,t2,t3,fun i x hi hx=>?_,fun i k hi hk hnot=>?_,hml⟩
  ·obtain ⟨y,hy,hyo,_⟩:=hgx i x hi hx
   obtain ⟨u1,g,u2,u3,u4⟩:=t4 i y hy
   rw[hyo] at u1 u2 u3
   exact ⟨u1,g,u2,fun hg=>(u3 hg).1,u4⟩
  ·obtain ⟨x,hx⟩:∃ x,al[i]? =some x:=⟨al[i]'(by omega),by simp[show i<al.length by omega]⟩
   obtain ⟨y,hy,hyo,hyc⟩:=hgx i x hi hx
   obtain ⟨_,g,_,u3,u4⟩:=t4 i y hy
   cases g
   ·rw[(u4 rfl).2.2.2];exact aF7 _
   ·obtain ⟨p,hp,hpo⟩:=vO _ (u3 rfl).2 k (by
     rw[hyc]
     simp only[List.mem_filter,List.mem_range,Bool.not_eq_eq_eq_not,Bool.not_true]
     refine ⟨hk,?_⟩
     cases h:yD (cS ops.toList []) k i
     ·rfl
     ·exact absurd (fQ.1 h) hnot)
    simp only[List.nil_append,List.getElem?_map,List.getElem?_range hk,Option.map_some,Option.some.injEq] at hp
    rw[hp];exact hpo
 refine wpIn_region_any hE.mix ?_
 have hr':D8 G μ s {w with drawn:=w.drawn+1}:=hr.drew
 refine aT6 hE S hT hr' (ds0:=a.defers) (fr':=fr2) (s':=s2) ?_ (fun μ2 a2 w2 hle hf2=>hQ μ2 a2 w2 hle (hf2.keep k)) ops.size _ a _ μ ?_ ?_
 ·rw[t5,t6,t7];exact h2
 ·have hnd:∀ i,¬ B3 (Array.replicate ops.size false) i:=fun i hd=>by unfold B3 at hd;rw[uO] at hd;cases hd
  have hcur:∀ d i,fC T (Array.replicate ops.size false) d i=(g9 s.heap d,s.next):=by
   intro d i
   induction i with
   |zero=>simp only[fC];rw[t2,t3]
   |succ i ih=>
    simp only[fC]
    rw[uO]
    simpa using ih
  refine ⟨by simp,fun i o ho hd=>absurd hd (hnd i),fun i _=>hnd i,hN,rfl,fun k x t _ _ _ hd=>absurd hd (hnd k),fun t v _ hv=>hf t v hv,hr'.b0,hr'.bp,fun j _=>rfl,fun k hk _ j h1 _=>?_,fun j hj=>?_,fun d b hd=>?_,fun d d' b b' q q' hd hd'=>?_⟩
  ·have:=hT.mono k 0 (by omega) (by omega)
   rw[hT.n] at this
   exact hr.dom j (by omega)
  ·have:=hT.mono m 0 (by omega) (Nat.le_refl _)
   rw[hT.n] at this
   exact hr.dom j (by omega)
  ·rw[hcur] at hd ⊢
   obtain ⟨q,q1,q2,q3,q4⟩:=hr'.blk d b hd
   refine ⟨q,q1,q2,q3,?_⟩
   rw[mS hr.dom]
   exact q4
  ·rw[hcur] at hd hd'
   exact hr'.sep d d' b b' q q' hd hd'
 ·have:∀ n,zJ (Array.replicate ops.size false) n≤n:=by
   intro n
   induction n with
   |zero=>simp[zJ]
   |succ n ih=>simp only[zJ];split<;>omega
  exact this _
end Go.Itp
namespace Go.Itp
open Go.RowKit (Below)
variable {P:Program} {E:D9} {G:u9} {μ:Mu} {s s':St} {w:World} {o:Oper} {a:Act} {fr fr':Fr} {v:Value} {bs:List w7} {N:Nat}
def EM:Ex→Exit
 | .normal=> .normal
 | .exit id=> .exit id
 | .ret=> .ret
structure GS (G G':u9):Prop where
 w0:G'.w0=G.w0
 pr:G'.pr=G.pr
 fx:∀ k,G.fx k→G'.fx k
 kp:L1 G.fx G.wp G'.wp
 le:G.w0.heap.size≤G.wp.heap.size
theorem GS.refl (h:G.w0.heap.size≤G.wp.heap.size):GS G G:=⟨rfl,rfl,fun _ h=>h,L1.refl _ _,h⟩
theorem GS.trans {G G1 G2:u9} (h:GS G G1) (k:GS G1 G2):GS G G2:=
 ⟨k.w0.trans h.w0,k.pr.trans h.pr,fun i hi=>k.fx i (h.fx i hi),h.kp.trans (k.kp.mono h.fx),h.le⟩
theorem D8.down {G G':u9} (g:GS G G') (h:D8 G' μ s w):D8 G μ s w:=by
 refine ⟨by rw[← g.w0];exact h.b0,g.kp.trans (h.bp.mono g.fx),g.le,fun i b e=>?_,h.sep,h.nd,h.lt,h.dom,by rw[← g.pr];exact h.pr⟩
 obtain ⟨l,l1,l2,l3,l4⟩:=h.blk i b e
 exact ⟨l,l1,by rw[← g.w0];exact l2,fun hp hk=>l3 hp (g.fx _ hk),l4⟩
def vB (r:Nat):Deferred:={target:= .collected r,args:=#[]}
def fA (G G':u9) (ms:List Deferred):Prop:=
 ∃ rs:List Nat,ms=rs.map vB∧rs.Nodup∧∀ r ∈ rs,G.w0.heap.size≤r∧¬ G.fx r∧G'.fx r∧G'.wp.heap[r]? =some (.deferred (some []))
theorem fA.nil (G:u9):fA G G []:=⟨[],rfl,List.nodup_nil,fun r h=>by cases h⟩
theorem fA.trans {G G1 G2:u9} {m1 m2:List Deferred} (g1:GS G G1) (h:fA G G1 m1) (g:GS G1 G2) (k:fA G1 G2 m2):fA G G2 (m2++m1):=by
 obtain ⟨r1,rfl,n1,h1⟩:=h
 obtain ⟨r2,rfl,n2,h2⟩:=k
 refine ⟨r2++r1,by simp,?_,fun r hr=>?_⟩
 ·rw[List.nodup_append]
  exact ⟨n2,n1,fun a ha b hb e=>by subst e;exact (h2 a ha).2.1 (h1 a hb).2.2.1⟩
 ·rw[List.mem_append] at hr
  rcases hr with hr|hr
  ·obtain ⟨a,b,c,d⟩:=h2 r hr
   exact ⟨by rw[← g1.w0];exact a,fun hk=>b (g1.fx r hk),c,d⟩
  ·obtain ⟨a,b,c,d⟩:=h1 r hr
   exact ⟨a,b,g.fx r c,by rw[g.kp.block r c];exact d⟩
def cJ (G:u9) (N:Nat) (s0:St) (μ:Mu) (ds:List Deferred) (fr:Fr) (s:St) (K:Act→World→Prop):Prop:=
 ∀ G' ms μ' a w,GS G G'→fA G G' ms→U0 s0 μ s μ'→G5 μ' fr a.tmps→a.tmps.size=N→a.defers=ms++ds→D8 G' μ' s w→K a w
theorem cJ.next {G1:u9} {s0 s1:St} {μ1:Mu} {ds ds1 m1:List Deferred} {K:Act→World→Prop} (h:cJ G N s0 μ ds fr s K) (g:GS G G1) (m:fA G G1 m1) (hle:U0 s0 μ s1 μ1) (hd:ds1=m1++ds):cJ G1 N s1 μ1 ds1 fr s K:=
 fun G2 m2 μ2 a2 w2 g2 k2 hle2 hf hN hd2 hr=>h G2 (m2++m1) μ2 a2 w2 (g.trans g2) (m.trans g g2 k2) (hle.trans hle2) hf hN (by rw[hd2,hd,List.append_assoc]) hr
theorem cJ.after {s0:St} {ds:List Deferred} {K:Act→World→Prop} (h:cJ G N s0 μ ds fr s K) (hr:D8 G μ s0 w):mF G N s0 μ ds fr s K:=
 fun μ' a w' hle hf hN hd hr'=>h G [] μ' a w' (GS.refl hr.le) (fA.nil G) hle hf hN (by simpa using hd) hr'
theorem r7.next {G1:u9} {μ1:Mu} (hE:r7 P E G.w0 μ) (g:GS G G1) (h:Mu.le μ μ1):r7 P E G1.w0 μ1:=by rw[g.w0];exact hE.mono h
theorem rB {ro:Option Nat} {Q:Exit→Act→World→Prop} {c:Code} (f:Fr→St→Option (Ex × Fr × St)) (ex:Ex)
  (hbody:∀ (G:u9) (fr:Fr) (s:St) (μ:Mu) (a:Act) (w:World) (Q':Exit→Act→World→Prop) (e1:Ex) (fr1:Fr) (s1:St),r7 P E G.w0 μ→f fr s=some (e1,fr1,s1)→G5 μ fr a.tmps→a.tmps.size=N→D8 G μ s w→
   cJ G N s μ a.defers fr1 s1 (Q' (EM e1))→c.wpIn (FW ro) 0 P Q' a w):
  ∀ (n:Nat) (G:u9) (fr:Fr) (s:St) (μ:Mu) (a:Act) (w:World),r7 P E G.w0 μ→iter f n fr s=some (ex,fr',s')→G5 μ fr a.tmps→a.tmps.size=N→D8 G μ s w→
  cJ G N s μ a.defers fr' s' (Q (EM ex))→Code.roundsIn (FW ro) 0 P c Q n a w
 |0,G,fr,s,μ,a,w,_,h,_,_,_,_=>by simp[iter] at h
 |n+1,G,fr,s,μ,a,w,hE,h,hf,hN,hr,hQ=>by
  rw[roundsIn_succ]
  simp only[iter] at h
  split at h
  ·rename_i fr1 s1 h1
   refine hbody G fr s μ a w _ .normal fr1 s1 hE h1 hf hN hr fun G1 ms μ1 a1 w1 g1 mk hle hf1 hN1 hd1 hr1=>?_
   exact rB f ex hbody n G1 fr1 s1 μ1 a1 w1 (hE.next g1 hle.le) h hf1 hN1 hr1 (hQ.next g1 mk hle hd1)
  ·rename_i r hne
   have hne':ex ≠ .normal:=by
    intro e
    subst e
    exact hne fr' s' h
   refine hbody G fr s μ a w _ ex fr' s' hE h hf hN hr fun G1 ms μ1 a1 w1 g1 mk hle hf1 hN1 hd1 hr1=>?_
   have:=hQ G1 ms μ1 a1 w1 g1 mk hle hf1 hN1 hd1 hr1
   cases ex with
   |normal=>exact absurd rfl hne'
   |exit id=>exact this
   |ret=>exact this
theorem WH (k:List Nat) (b:AC) (fr:Fr) (s:St):z9 E (.loop k b) fr s=iter (fun fr s=>z9 E b (q9 k fr) s) E.rounds fr s:=by simp[z9]
end Go.Itp
namespace Go.Itp
open Go.RowKit (Below)
variable {P:Program} {E:D9} {G:u9} {μ:Mu} {s s':St} {w:World} {o:Oper} {a:Act} {fr fr':Fr} {v:Value} {bs:List w7} {N:Nat}
theorem gE {h:m0} {d c:Nat} (e:lJ h d c=true):∃ b,g9 h d=some b∧b.esz=0∧b.grow=true∧b.ty=c:=by
 unfold lJ at e
 split at e
 ·rename_i b hb
  rw[Bool.and_eq_true,Bool.and_eq_true] at e
  exact ⟨b,hb,j7.1 e.1.1,e.1.2,j7.1 e.2⟩
 ·cases e
theorem D8.record (hr:D8 G μ s w) {d:Nat} {b:w7} (hb:g9 s.heap d=some b) (hz:b.esz=0) (hg:b.grow=true) {l:yC} (hl:μ d=some l) {D:Go.Loop} (hD:l.dat=some D):
  w.heap[l.blk]? =some (.loop (O2 D b.ty)):=by
 obtain ⟨l',l1,l2,l3,arr,fz,hob,_⟩:=hr.blk d b hb
 rw[hl] at l1
 cases l1
 rcases hob with ⟨_,_,⟨hg',_⟩|⟨_,D',hD',h⟩⟩|⟨hz',_⟩
 ·rw[hg] at hg';cases hg'
 ·rw[hD] at hD';cases hD';exact h
 ·exact absurd hz hz'
theorem D8.setRec (hr:D8 G μ s w) {d:Nat} {b:w7} (hb:g9 s.heap d=some b) (hz:b.esz=0) (hp:s.prot≤d) {l:yC} (hl:μ d=some l) {D:Go.Loop} (hD:l.dat=some D) (c:Nat):
  D8 G μ {s with heap:=A1 s.heap d (A8 c)} (w.putObj l.blk (.loop (O2 D c))):=by
 obtain ⟨l',l1,l2,l3,l4⟩:=hr.blk d b hb
 rw[hl] at l1
 cases l1
 have hlt:=l4.lt
 have hoff:l.off=0:=by
  obtain ⟨arr,fz,hob,_,_,h4,_⟩:=l4
  rcases hob with ⟨_,rfl,_⟩|⟨hz',_⟩
  ·have h0:(#[]:Array Value).size=0:=rfl
   rw[h0] at h4;omega
  ·exact absurd hz hz'
 have hoth:∀ k,k ≠ l.blk→(w.putObj l.blk (.loop (O2 D c))).heap[k]? =w.heap[k]? :=fun k hk=>World.putObj_heap_other hk
 refine ⟨hr.b0.trans ⟨rfl,rfl,rfl,by simp,fun k hk=>hoth k (by omega)⟩,hr.bp.trans ⟨rfl,rfl,rfl,by simp,fun k hk=>hoth k (fun e=>l3 hp (e▸hk))⟩,hr.le,?_,?_,by rw[M7];exact hr.nd,by rw[M7];exact hr.lt,hr.dom,hr.pr⟩
 ·intro j e hj
  simp only at hj
  rw[M5 _ _ _ _ _ hb] at hj
  split at hj
  ·rename_i hji
   subst hji
   cases hj
   refine ⟨l,hl,l2,l3,#[],(0,0),.inl ⟨rfl,rfl,.inr ⟨rfl,D,hD,World.putObj_heap_same hlt⟩⟩,fun o _ _=>by simp,fun j v hj=>by simp[A8] at hj,?_,?_,fun hg=>(by cases hg)⟩
   ·simp[A8,hoff]
   ·intro _;simp[A8,hoff]
  ·rename_i hji
   obtain ⟨m,m1,m2,m3,m4⟩:=hr.blk j e hj
   exact ⟨m,m1,m2,m3,m4.mono (Mu.le_refl μ) (hoth _ (hr.sep j d e b m l hj hb hji m1 hl))⟩
 ·intro j k e f p q hj hk hjk hjp hkq
  simp only at hj hk
  rw[M5 _ _ _ _ _ hb] at hj hk
  have e1:∃ c',g9 s.heap j=some c':=by split at hj;(rename_i e;subst e;exact ⟨_,hb⟩);exact ⟨_,hj⟩
  obtain ⟨c',hc'⟩:=e1
  have e2:∃ d',g9 s.heap k=some d':=by split at hk;(rename_i e;subst e;exact ⟨_,hb⟩);exact ⟨_,hk⟩
  obtain ⟨d',hd'⟩:=e2
  exact hr.sep j k c' d' p q hc' hd' hjk hjp hkq
theorem D8.putDead (hr:D8 G μ s w) {k:Nat} (o:Obj) (h0:G.w0.heap.size≤k) (hf:¬ G.fx k) (hd:∀ i b l,g9 s.heap i=some b→μ i=some l→l.blk ≠ k):D8 G μ s (w.putObj k o):=by
 have hoth:∀ j,j ≠ k→(w.putObj k o).heap[j]? =w.heap[j]? :=fun j hj=>World.putObj_heap_other hj
 refine ⟨hr.b0.trans ⟨rfl,rfl,rfl,by simp,fun j hj=>hoth j (by omega)⟩,hr.bp.trans ⟨rfl,rfl,rfl,by simp,fun j hj=>hoth j (fun e=>hf (e▸hj))⟩,hr.le,fun i b e=>?_,hr.sep,hr.nd,hr.lt,hr.dom,hr.pr⟩
 obtain ⟨l,l1,l2,l3,l4⟩:=hr.blk i b e
 exact ⟨l,l1,l2,l3,l4.mono (Mu.le_refl μ) (hoth _ (hd i b l e l1))⟩
theorem AG:∀ (ps:List Nat) (vs:List Value) (fr:Fr) (tmps:Array Value) (cs:List Value) {fr1:Fr},qV fr ps vs=some fr1→G5 μ fr tmps→tmps.size=N→(∀ t ∈ ps,t<N)→E9 μ vs=some cs→
  G5 μ fr1 ((ps.zip cs).foldl (fun tmps (x:Nat × Value)=>tmps.setIfInBounds x.1 x.2) tmps)∧((ps.zip cs).foldl (fun tmps (x:Nat × Value)=>tmps.setIfInBounds x.1 x.2) tmps).size=N∧cs.length=ps.length
 | [],[],fr,tmps,cs,fr1,h,hf,hN,_,ht=>by
  simp[qV] at h;subst h
  simp[E9] at ht;subst ht
  exact ⟨hf,hN,rfl⟩
 | [],_::_,fr,tmps,cs,fr1,h,_,_,_,_=>by simp[qV] at h
 |_::_,[],fr,tmps,cs,fr1,h,_,_,_,_=>by simp[qV] at h
 |t::ps,v::vs,fr,tmps,cs,fr1,h,hf,hN,hp,ht=>by
  simp only[E9,Option.bind_eq_some_iff,Option.map_eq_some_iff] at ht
  obtain ⟨c,hc,cs',hcs,rfl⟩:=ht
  simp only[qV] at h
  have:=AG ps vs (pE fr t v) (tmps.setIfInBounds t c) cs' h (hf.put (by rw[hN];exact hp t (by simp)) hc) (by simp[hN]) (fun u hu=>hp u (by simp[hu])) hcs
  simp only[List.zip_cons_cons,List.foldl_cons,List.length_cons]
  exact ⟨this.1,this.2.1,by rw[this.2.2]⟩
def AV:Ex→Option Code
 | .normal=>none
 | .ret=>some .ret
 | .exit id=>some (.exit id)
theorem PE (D:Go.Loop) (c:Nat) (e:Ex):({O2 D c with state:=if (AV e).isNone then .ready else .done,pending:=AV e}:Go.Loop)=O2 D (fW e):=by
 cases e<;>rfl
theorem FX {l:Nat} {R:Ending→World→Prop} {e:Ex} {a:Act} {w w':World} {v:Value} (h:(Instr.endRound l (AV e)).run P w= .ok v w') (hR:R (.returned v) w'):roundPost P l R (EM e) a w:=by
 cases e with
 |normal=>exact ⟨v,w',h,hR⟩
 |ret=>exact ⟨v,w',h,hR⟩
 |exit id=>exact ⟨v,w',h,hR⟩
def DL (P:Program) (E:D9) (N:Nat) (c:Code) (x:AC):Prop:=
 ∀ (l:Nat) (G:u9) (fr:Fr) (s:St) (μ:Mu) (a:Act) (w:World) (Q:Exit→Act→World→Prop) (ex:Ex) (fr':Fr) (s':St),
  r7 P E G.w0 μ→z9 E x fr s=some (ex,fr',s')→G5 μ fr a.tmps→a.tmps.size=N→D8 G μ s w→cJ G N s μ a.defers fr' s' (Q (EM ex))→c.wpIn (FW (some l)) 0 P Q a w
theorem aR5 {w0:World} {m:Mu} {d:Nat} (hE:r7 P E w0 m) {D:Go.Loop} {x y:AC} (hx:DL P E N D.assign x) (hy:DL P E N D.body y) {l:yC} (hl:m d=some l) (hD:l.dat=some D)
  (hf:G5 m fr D.tmps) (hN:D.tmps.size=N) (hp:∀ t ∈ D.params.toList,t<N):dQ P w0 m d (iG (z9 E x) (z9 E y) fr D.params.toList d):=by
 intro xs s v s' h G μ w cs hG hle hr hxs
 unfold iG at h
 split at h
 case isFalse=>cases h
 rename_i hc
 rw[Bool.and_eq_true,Nat.ble_eq] at hc
 obtain ⟨hpd,hrec⟩:=hc
 obtain ⟨b,hb,bz,bg,bt⟩:=gE hrec
 simp only[Option.bind_eq_some_iff] at h
 obtain ⟨fr1,hf1,⟨e0,fr2,s2⟩,hx1,h⟩:=h
 have hlμ:=hle _ _ hl
 refine ⟨l,hlμ,?_⟩
 intro ro o a next Q k
 have hlo:=hr.record hb bz bg hlμ hD
 have hput:=AG D.params.toList xs fr D.tmps cs hf1 (hf.mono hle) hN hp hxs
 rw[run_yield hlo (by simpa [O2] using hput.2.2),Oper.uponIn_round]
 refine ⟨sR,roundIn_of_wpIn (fK ro _) ?_⟩
 have htm:((O2 D b.ty).params.zip cs.toArray).foldl (fun tmps (t,a)=>tmps.setIfInBounds t a) (O2 D b.ty).tmps=(D.params.toList.zip cs).foldl (fun tmps (x:Nat × Value)=>tmps.setIfInBounds x.1 x.2) D.tmps:=by
  rw[← Array.foldl_toList]
  simp[O2]
 rw[htm]
 cases e0 with
 |exit i=>cases h
 |ret=>cases h
 |normal=>?_
 simp only at h
 split at h
 case isFalse=>cases h
 rename_i hrec2
 simp only[Option.bind_eq_some_iff] at h
 obtain ⟨⟨e,fr3,s3⟩,hy1,h⟩:=h
 split at h
 case isFalse=>cases h
 rename_i hrec3
 simp only[Option.some.injEq,Prod.mk.injEq] at h
 obtain ⟨hv,hs'⟩:=h
 obtain ⟨b2,hb2,b2z,b2g,b2t⟩:=gE hrec2
 obtain ⟨b3,hb3,b3z,b3g,b3t⟩:=gE hrec3
 have hEμ:r7 P E G.w0 μ:=by rw[hG];exact hE.mono hle
 refine hx l.blk G fr1 s μ _ w _ .normal fr2 s2 hEμ hx1 hput.1 hput.2.1 hr ?_
 intro G1 ms μ1 a1 w1 g1 mk ext1 hfr1 hN1 hd1 hr1
 have hl1:=ext1.le _ _ hlμ
 have hlo1:=hr1.record hb2 b2z b2g hl1 hD
 have hp1:s2.prot≤d:=by rw[hr1.pr,g1.pr,← hr.pr];exact hpd
 refine ⟨_,run_beginRound hlo1 (by rw[b2t];rfl),?_⟩
 have hr1':=hr1.setRec hb2 b2z hp1 hl1 hD 1
 have heq:({O2 D b2.ty with state:= .busy}:Go.Loop)=O2 D 1:=by rw[b2t];rfl
 rw[heq]
 refine hy l.blk G1 fr2 _ μ1 a1 _ _ e fr3 s3 (hEμ.next g1 ext1.le) hy1 hfr1 hN1 hr1' ?_
 intro G2 ms2 μ2 a2 w2 g2 mk2 ext2 hfr2 hN2 hd2 hr2
 have hl2:=ext2.le _ _ hl1
 have hlo2:=hr2.record hb3 b3z b3g hl2 hD
 have hp2:s3.prot≤d:=by rw[hr2.pr,g2.pr,g1.pr,← hr.pr];exact hpd
 have hend:=run_endRound (P:=P) (AV e) hlo2
 rw[PE] at hend
 refine FX hend ?_
 have hr3:=(hr2.setRec hb3 b3z hp2 hl2 hD (fW e)).down (g1.trans g2)
 refine k _ _ ⟨μ2,?_,?_,?_⟩
 ·rw[← hs']
  exact U0.trans ext1 (U0.trans (U0.of ext2 rfl) (U0.same μ2 rfl))
 ·rw[← hv];cases e<;>rfl
 ·rw[← hs'];exact hr3
theorem aI1 {g:Operand} {ps:Array Nat} {xa xb:Code} {x y:AC} {k:List Nat} {Q:Exit→Act→World→Prop} {ex:Ex} (hg:l9 g=true) (hps:∀ t ∈ ps.toList,t<N) (hx:DL P E N xa x) (hy:DL P E N xb y)
  (hE:r7 P E G.w0 μ) (he:z9 E (.rangeF g ps.toList k x y) fr s=some (ex,fr',s')) (hf:G5 μ fr a.tmps) (hN:a.tmps.size=N) (hr:D8 G μ s w) (hQ:cJ G N s μ a.defers fr' s' (Q (EM ex))):
  (Code.rangeFunc g ps xa xb).wpIn (FW none) 0 P Q a w:=by
 simp only[z9,Option.bind_eq_some_iff] at he
 obtain ⟨gv,hgv,⟨f,xs⟩,hcl,⟨v,s2⟩,hrc,b,hb,he⟩:=he
 split at he
 case isFalse=>cases he
 rename_i hbz
 rw[Bool.and_eq_true] at hbz
 have hz:=j7.1 hbz.1
 simp only[Option.map_eq_some_iff,Prod.mk.injEq] at he
 obtain ⟨e,hj,rfl,rfl,rfl⟩:=he
 refine wpIn_rangeFunc fun fn _=>?_
 let D:Go.Loop:={state:= .ready,pending:=none,fn,tmps:=a.tmps,params:=ps,assign:=xa,body:=xb,defers:=w.heap.size}
 let w1:World:=(w.alloc (.deferred (some []))).alloc (.loop D)
 let l:yC:=⟨w.heap.size+1,0,0,some D⟩
 let μ1:Mu:=μ.set s.next l
 have hsz1:w1.heap.size=w.heap.size+2:=by simp only[w1,World.size_alloc]
 have hold:∀ i,i<w.heap.size→w1.heap[i]? =w.heap[i]? :=fun i hi=>by
  simp only[w1,World.alloc]
  rw[Array.getElem?_push,if_neg (by simp;omega),Array.getElem?_push,if_neg (by omega)]
 have hmk:w1.heap[w.heap.size]? =some (.deferred (some [])):=by
  simp only[w1,World.alloc]
  rw[Array.getElem?_push,if_neg (by simp),Array.getElem?_push,if_pos rfl]
 have hlp:w1.heap[w.heap.size+1]? =some (.loop D):=by
  simp only[w1,World.alloc]
  rw[Array.getElem?_push,if_pos (by simp)]
 have hD:(D:Go.Loop)=O2 D 0:=rfl
 obtain ⟨hr1,hle1⟩:=hr.adopt l (A8 0) w1 ⟨#[],(0,0),.inl ⟨rfl,rfl,.inr ⟨rfl,D,rfl,by rw[← show D=O2 D (A8 0).ty from rfl];exact hlp⟩⟩,fun o _ _=>by simp,fun j v hj=>by simp[A8] at hj,by simp[A8,l],fun _=>by simp[A8,l],fun hg=>(by cases hg)⟩
  (by have:=hr.size0;show G.w0.heap.size≤w.heap.size+1;omega) (fun hk=>by have:=hr.fxlt hk;simp only[l] at this;omega)
  (fun i c m ei hm he=>by
   obtain ⟨m',hm',_,_,hbb⟩:=hr.blk i c ei
   rw[hm] at hm';cases hm'
   have:=hbb.lt
   rw[he] at this
   simp only[l] at this;omega) rfl rfl rfl (by omega) (fun i hi _=>hold i hi)
 let G1:u9:=⟨G.w0,w1,G.pr,fun i=>G.fx i∨i=w.heap.size,fun i hi=>by
  rw[hsz1]
  rcases hi with hi|hi
  ·have:=hr.fxlt hi;omega
  ·omega⟩
 have g1:GS G G1:=⟨rfl,rfl,fun i hi=> .inl hi,hr.bp.trans ⟨rfl,rfl,rfl,by show w.heap.size≤w1.heap.size;omega,fun i hi=>hold i (hr.fxlt hi)⟩,hr.le⟩
 have hr1':D8 G1 μ1 (s.push [A8 0]) w1:=by
  refine ⟨hr1.b0,L1.refl _ _,by have:=hr.size0;show G.w0.heap.size≤w1.heap.size;omega,fun i c ei=>?_,hr1.sep,hr1.nd,hr1.lt,hr1.dom,hr1.pr⟩
  obtain ⟨q,q1,q2,q3,q4⟩:=hr1.blk i c ei
  refine ⟨q,q1,q2,fun hp hk=>?_,q4⟩
  rcases hk with hk|hk
  ·exact q3 hp hk
  ·rw[X2,m9] at ei
   split at ei
   ·rename_i hi
    subst hi
    have:q=l:=by have:=q1;rw[show (μ.set s.next l) s.next=some l from Mu.set_same] at this;exact (Option.some.inj this).symm
    subst this
    simp only[l] at hk;omega
   ·rename_i hi
    obtain ⟨q',p1,_,_,p4⟩:=hr.blk i c ei
    have:=hle1 _ _ p1
    rw[q1] at this;cases this
    have:=p4.lt
    omega
 have hμd:μ1 s.next=some l:=Mu.set_same
 have htok:E9 μ1 [Value.chan (some s.next)]=some [.func (.yield (w.heap.size+1)) #[] #[]]:=by
  simp[E9,tr,hμd,l]
 obtain ⟨lf,mf,e1,e2⟩:=lF hcl (J9 hle1 _ (p6 hf hg hgv)) htok
 have hh:dQ P G.w0 μ1 s.next (iG (z9 E x) (z9 E y) (q9 k fr) ps.toList s.next):=
  aR5 (D:=D) (l:=l) (hE.mono hle1) hx hy hμd rfl ((hf.mono hle1).keep k) hN hps
 obtain ⟨henter,hcalls⟩:=hE.r _ _ _ _ _ _ _ hrc μ1 hle1 hh G1 μ1 w1 _ rfl (Mu.le_refl _) hr1' e2
 refine ⟨w.heap.size+1,[vB w.heap.size],w1,{target:= .fn (.func f) ⟨mf⟩,args:=⟨lf⟩++#[.func (.yield (w.heap.size+1)) #[] #[]]},w1,f,(lf++ [Value.func (.yield (w.heap.size+1)) #[] #[]]++mf).toArray,w1,?_,?_,fun f' _=>fK none f',?_,sR,lD.2 (hcalls.mono fun en w3 ⟨c,hen,hW⟩=>?_)⟩
 ·exact run_enterLoop_outer fn a.tmps ps xa xb
 ·simp only[resolve]
  rw[e1]
  simp[Deferred.ofValue,Act.eval]
 ·have:(lf++ [Value.func (.yield (w.heap.size+1)) #[] #[]]++mf).toArray=(⟨lf⟩:Array Value)++#[.func (.yield (w.heap.size+1)) #[] #[]]++⟨mf⟩:=by apply Array.ext';simp
  rw[this] at henter ⊢
  simpa [invoke] using henter
 ·subst hen
  obtain ⟨μ3,x1,x2,x3⟩:=hW
  have hl3:=x1.le _ _ hμd
  have hlo:=x3.record hb hz hbz.2 hl3 (D:=D) rfl
  have hnb:(O2 D b.ty).state ≠ .busy:=by
   intro hbusy
   have:b.ty ≠ 1:=fun h1=>by rw[h1] at hj;cases hj
   generalize b.ty=t at*
   match t with
   |0=>cases hbusy
   |1=>exact this rfl
   |t+2=>cases hbusy
  have hend:=run_endLoop (P:=P) hlo hnb
  have hpend:(O2 D b.ty).pending=AV e:=by
   generalize b.ty=t at*
   match t,hj with
   |0,hj=>cases hj;rfl
   |1,hj=>cases hj
   |2,hj=>cases hj;rfl
   |t+3,hj=>cases hj;rfl
  obtain ⟨w4,hw4⟩:∃ w4,w4=w3.putObj (w.heap.size+1) (.loop {O2 D b.ty with state:= .exhausted}):=⟨_,rfl⟩
  refine ⟨AV e,w4,by rw[hw4,← hpend];exact hend,?_⟩
  have G0:D8 G1 μ3 {s2 with heap:=G0 s2.heap s.next} w4:=by
   rw[hw4]
   refine (x3.del s.next).putDead _ (by have:=hr.size0;show G.w0.heap.size≤w.heap.size+1;omega) (fun hk=>?_) (fun i c m ei hm he=>?_)
   ·rcases hk with hk|hk
    ·have:=hr.fxlt hk;omega
    ·omega
   ·obtain ⟨hne,hi⟩:=aH _ _ x3.nd i c ei
    exact x3.sep i s.next c b m l hi hb hne hm hl3 (by simpa [l] using he)
  have hfin:Q (EM e) {a with defers:= [vB w.heap.size]++a.defers} w4:=by
   refine hQ G1 [vB w.heap.size] μ3 _ _ g1 ⟨[w.heap.size],rfl,by simp,fun r hrr=>?_⟩ ?_ ?_ hN rfl G0
   ·simp only[List.mem_singleton] at hrr
    subst hrr
    exact ⟨hr.size0,hr.fxnew,.inr rfl,hmk⟩
   ·exact U0.trans (U0.push hle1) (U0.trans x1 (U0.same μ3 rfl))
   ·exact (hf.mono (Mu.le_trans hle1 x1.le)).keep k
  cases e with
  |normal=>exact hfin
  |ret=>exact wpIn_ret hfin
  |exit id=>exact wpIn_exit hfin
end Go.Itp
namespace Go.Itp
open Go.RowKit (Below)
variable {P:Program} {E:D9} {G:u9} {μ:Mu} {s s':St} {w:World} {o:Oper} {a:Act} {fr fr':Fr} {v:Value} {bs:List w7} {N:Nat}
theorem aR1:∀ (c:Code) (ac0 ac:AC),F9 P N c ac0=some ac→∀ (ro:Option Nat) (_:ro=none∨BG ac=true) (G:u9) (fr:Fr) (s:St) (μ:Mu) (a:Act) (w:World) (Q:Exit→Act→World→Prop) (ex:Ex) (fr':Fr) (s':St),
  r7 P E G.w0 μ→z9 E ac fr s=some (ex,fr',s')→G5 μ fr a.tmps→a.tmps.size=N→D8 G μ s w→cJ G N s μ a.defers fr' s' (Q (EM ex))→c.wpIn (FW ro) 0 P Q a w:=by
 intro c
 induction c with
 |skip=>
  intro ac0 ac h ro hro G fr s μ a w Q ex fr' s' hE he hf hN hr hQ
  simp[F9] at h;subst h
  simp[z9] at he
  obtain ⟨rfl,rfl,rfl⟩:=he
  exact wpIn_skip (hQ G [] μ a w (GS.refl hr.le) (fA.nil G) (U0.refl s μ) hf hN rfl hr)
 |region id ops d=>
  intro ac0 ac h ro hro G fr s μ a w Q ex fr' s' hE he hf hN hr hQ
  cases d with
  |true=>
   cases ac0 with
   |bad=>simp[F9] at h;subst h;simp[z9] at he
   |draw p t hd k=>
    simp only[F9] at h
    have hex:ex= .normal:=by
     simp only[mP,Option.bind_eq_some_iff] at h
     obtain ⟨al,_,h⟩:=h
     split at h
     case isFalse=>cases h
     cases h
     simp only[z9,Option.bind_eq_some_iff,Option.map_eq_some_iff,Prod.mk.injEq] at he
     obtain ⟨_,_,_,_,e,_⟩:=he
     exact e.symm
    subst hex
    exact (aQ8 h hE he hf hN hr (hQ.after hr)).2
   |drawW p t k=>
    simp only[F9] at h
    have hex:ex= .normal:=by
     simp only[jC,Option.bind_eq_some_iff] at h
     obtain ⟨al,_,h⟩:=h
     split at h
     case isFalse=>cases h
     cases h
     simp only[z9,Option.bind_eq_some_iff,Option.map_eq_some_iff,Prod.mk.injEq] at he
     obtain ⟨_,_,_,_,e,_⟩:=he
     exact e.symm
    subst hex
    exact (aA1 h hE he hf hN hr (hQ.after hr)).2
   |_=>simp[F9] at h
  |false=>
   cases ac0<;>simp[F9] at h
   case bad=>subst h;simp[z9] at he
   case ops l0 k=>
    obtain ⟨al,hal,rfl⟩:=h
    simp only[z9,Option.map_eq_some_iff] at he
    obtain ⟨⟨fr1,s1⟩,he,e⟩:=he
    simp only[Prod.mk.injEq] at e
    obtain ⟨rfl,rfl,rfl⟩:=e
    refine wpIn_region ?_
    have:=pT (ro:=ro) (Q:=Q) ops.toList al 0 fr s μ a w hE (fun j=>by simp) hal he hf hN hr (fun μ2 a2 w2 hle hf2=>hQ.after hr μ2 a2 w2 hle (hf2.keep k))
    rw[List.range_eq_range']
    simpa using this
 |seq x y ihx ihy=>
  intro ac0 ac h ro hro G fr s μ a w Q ex fr' s' hE he hf hN hr hQ
  cases ac0 with
  |bad=>simp[F9] at h;subst h;simp[z9] at he
  |seq x0 y0=>
   simp only[F9,Option.bind_eq_some_iff,Option.map_eq_some_iff] at h
   obtain ⟨x1,hx,y1,hy,rfl⟩:=h
   have hrx:ro=none∨BG x1=true:=hro.imp id fun e=>by simp[BG] at e;exact e.1
   have hry:ro=none∨BG y1=true:=hro.imp id fun e=>by simp[BG] at e;exact e.2
   simp only[z9,Option.bind_eq_some_iff] at he
   obtain ⟨r,hr1,he⟩:=he
   refine wpIn_seq ?_
   split at he
   ·rename_i fr1 s1
    refine ihx x0 x1 hx ro hrx G fr s μ a w _ .normal fr1 s1 hE hr1 hf hN hr fun G1 ms μ1 a1 w1 g1 mk hle hf1 hN1 hd1 hr1=>?_
    exact ihy y0 y1 hy ro hry G1 fr1 s1 μ1 a1 w1 Q ex fr' s' (hE.next g1 hle.le) he hf1 hN1 hr1 (hQ.next g1 mk hle hd1)
   ·rename_i hne
    cases he
    refine ihx x0 x1 hx ro hrx G fr s μ a w _ ex fr' s' hE hr1 hf hN hr fun G1 ms μ1 a1 w1 g1 mk hle hf1 hN1 hd1 hr1=>?_
    have:=hQ G1 ms μ1 a1 w1 g1 mk hle hf1 hN1 hd1 hr1
    cases ex with
    |normal=>exact absurd rfl (hne fr' s')
    |exit id=>exact this
    |ret=>exact this
  |_=>simp[F9] at h
 |cond c t e iht ihe=>
  intro ac0 ac h ro hro G fr s μ a w Q ex fr' s' hE he hf hN hr hQ
  cases ac0 with
  |bad=>simp[F9] at h;subst h;simp[z9] at he
  |cond c0 t0 e0=>
   simp only[F9] at h
   split at h
   case isFalse=>cases h
   rename_i hc
   simp only[Option.bind_eq_some_iff,Option.map_eq_some_iff] at h
   obtain ⟨t1,ht,e1,he1,rfl⟩:=h
   simp only[z9,Option.bind_eq_some_iff] at he
   obtain ⟨u,hu,he⟩:=he
   split at he
   case h_2=>cases he
   rename_i b
   have hb:=eR (p6 hf hc hu)
   have hrt:ro=none∨BG t1=true:=hro.imp id fun e=>by simp[BG] at e;exact e.1
   have hre:ro=none∨BG e1=true:=hro.imp id fun e=>by simp[BG] at e;exact e.2
   refine wpIn_cond hb ?_
   cases b
   ·exact ihe e0 e1 he1 ro hre G fr s μ a w Q ex fr' s' hE (by simpa using he) hf hN hr hQ
   ·exact iht t0 t1 ht ro hrt G fr s μ a w Q ex fr' s' hE (by simpa using he) hf hN hr hQ
  |_=>simp[F9] at h
 |block id b ih=>
  intro ac0 ac h ro hro G fr s μ a w Q ex fr' s' hE he hf hN hr hQ
  cases ac0<;>simp[F9] at h
  case bad=>subst h;simp[z9] at he
  case block id0 b0=>
   obtain ⟨b1,hb,rfl⟩:=h
   simp only[z9,Option.map_eq_some_iff] at he
   obtain ⟨⟨e1,fr1,s1⟩,hr1,he⟩:=he
   refine wpIn_block (ih b0 b1 hb ro (hro.imp (fun e=>e) fun e=>by simpa [BG] using e) G fr s μ a w _ e1 fr1 s1 hE hr1 hf hN hr fun G1 ms μ1 a1 w1 g1 mk hle hf1 hN1 hd1 hrr=>?_)
   cases e1 with
   |normal=>
    simp only[Prod.mk.injEq] at he
    obtain ⟨rfl,rfl,rfl⟩:=he
    exact hQ G1 ms μ1 a1 w1 g1 mk hle hf1 hN1 hd1 hrr
   |ret=>
    simp only[Prod.mk.injEq] at he
    obtain ⟨rfl,rfl,rfl⟩:=he
    exact hQ G1 ms μ1 a1 w1 g1 mk hle hf1 hN1 hd1 hrr
   |exit i=>
    simp only at he
    split at he
    ·rename_i hi
     have hi':=j7.1 hi
     simp only[Prod.mk.injEq] at he
     obtain ⟨rfl,rfl,rfl⟩:=he
     simp only[EM,Exit.inBlock,hi',if_true]
     exact hQ G1 ms μ1 a1 w1 g1 mk hle hf1 hN1 hd1 hrr
    ·rename_i hi
     simp only[Prod.mk.injEq] at he
     obtain ⟨rfl,rfl,rfl⟩:=he
     simp only[EM,Exit.inBlock]
     rw[if_neg (fun e=>hi (j7.2 e))]
     exact hQ G1 ms μ1 a1 w1 g1 mk hle hf1 hN1 hd1 hrr
 |loop b ih=>
  intro ac0 ac h ro hro G fr s μ a w Q ex fr' s' hE he hf hN hr hQ
  cases ac0<;>simp[F9] at h
  case bad=>subst h;simp[z9] at he
  case loop k b0=>
   obtain ⟨b1,hb,rfl⟩:=h
   rw[WH] at he
   refine wpIn_loop_rounds E.rounds (rB (N:=N) (E:=E) _ ex ?_ E.rounds G fr s μ a w hE he hf hN hr hQ)
   intro G2 fr2 s2 μ2 a2 w2 Q2 e2 fr3 s3 hE2 h2 hf2 hN2 hr2 hQ2
   exact ih b0 b1 hb ro (hro.imp (fun e=>e) fun e=>by simpa [BG] using e) G2 (q9 k fr2) s2 μ2 a2 w2 Q2 e2 fr3 s3 hE2 h2 (hf2.keep k) hN2 hr2 hQ2
 |rangeFunc g ps xa xb iha ihb=>
  intro ac0 ac h ro hro G fr s μ a w Q ex fr' s' hE he hf hN hr hQ
  cases ac0 with
  |bad=>simp[F9] at h;subst h;simp[z9] at he
  |rangeF g0 ps0 k a0 b0=>
   simp only[F9] at h
   split at h
   case isFalse=>cases h
   rename_i hc
   rw[Bool.and_eq_true] at hc
   simp only[Option.bind_eq_some_iff] at h
   obtain ⟨x,hx,y,hy,h⟩:=h
   split at h
   case isFalse=>cases h
   rename_i hn
   rw[Bool.and_eq_true] at hn
   cases h
   have hron:ro=none:=by
    rcases hro with e|e
    ·exact e
    ·simp[BG] at e
   subst hron
   exact aI1 hc.1 (fun t ht=>by have:=List.all_eq_true.1 hc.2 t ht;rwa [Nat.blt_eq] at this) (fun l G=>iha a0 x hx (some l) (.inr hn.1) G) (fun l G=>ihb b0 y hy (some l) (.inr hn.2) G) hE he hf hN hr hQ
  |_=>simp[F9] at h
 |exit id=>
  intro ac0 ac h ro hro G fr s μ a w Q ex fr' s' hE he hf hN hr hQ
  simp[F9] at h;subst h
  simp[z9] at he
  obtain ⟨rfl,rfl,rfl⟩:=he
  exact wpIn_exit (hQ G [] μ a w (GS.refl hr.le) (fA.nil G) (U0.refl s μ) hf hN rfl hr)
 |scope b _=>
  intro ac0 ac h ro hro G fr s μ a w Q ex fr' s' hE he hf hN hr hQ
  cases ac0<;>simp[F9] at h
  subst h;simp[z9] at he
 |label l=>
  intro ac0 ac h ro hro G fr s μ a w Q ex fr' s' hE he hf hN hr hQ
  cases ac0<;>simp[F9] at h
  subst h;simp[z9] at he
 |goto l=>
  intro ac0 ac h ro hro G fr s μ a w Q ex fr' s' hE he hf hN hr hQ
  cases ac0<;>simp[F9] at h
  subst h;simp[z9] at he
 |ret=>
  intro ac0 ac h ro hro G fr s μ a w Q ex fr' s' hE he hf hN hr hQ
  simp[F9] at h;subst h
  simp[z9] at he
  obtain ⟨rfl,rfl,rfl⟩:=he
  exact wpIn_ret (hQ G [] μ a w (GS.refl hr.le) (fA.nil G) (U0.refl s μ) hf hN rfl hr)
 |refuse y=>
  intro ac0 ac h ro hro G fr s μ a w Q ex fr' s' hE he hf hN hr hQ
  cases ac0<;>simp[F9] at h
  subst h;simp[z9] at he
end Go.Itp
namespace Go.Itp
open Go.RowKit (Below)
variable {P:Program} {E:D9} {G:u9} {μ:Mu} {s s':St} {w:World} {a:Act} {fr fr':Fr} {v:Value} {bs:List w7} {N:Nat}
section
variable {n0:Nat} {f:Nat→Nat} {μ ν:Mu}
def bW (_n0:Nat) (f:Nat→Nat) (μ ν:Mu) (i:Nat):Prop:=ν (f i)=μ i
theorem GH (hlow:∀ i,i<n0→bW n0 f μ ν i) {p:Option Addr} (h:∀ i ∈ n8 n0 p,bW n0 f μ ν i):R2 ν (I2 f p)=R2 μ p∧∀ c,bM ν (I2 f p) c=bM μ p c:=by
 rcases p with _|⟨b,o,_|k⟩
 ·exact ⟨rfl,fun _=>rfl⟩
 ·exact ⟨rfl,fun _=>rfl⟩
 ·have hb:bW n0 f μ ν b:=by
   by_cases hn:n0≤b
   ·exact h b (by simp only[n8];rw[if_pos (by rw[Nat.ble_eq];exact hn)];simp)
   ·exact hlow b (by omega)
  unfold bW at hb
  exact ⟨by simp[I2,R2,hb],fun c=>by simp[I2,bM,hb]⟩
mutual
theorem GJ (hlow:∀ i,i<n0→bW n0 f μ ν i):∀ (v:Value),(∀ i ∈ s7 n0 v,bW n0 f μ ν i)→tr ν (P9 f v)=tr μ v
 | .pointer p,h=>by simp only[s7] at h;simp[P9,tr,(GH hlow h).1]
 | .slice p n c,h=>by simp only[s7] at h;simp[P9,tr,(GH hlow h).1,(GH hlow h).2]
 | .func fn ⟨x⟩ ⟨y⟩,h=>by
  simp only[s7,List.mem_append] at h
  simp[P9,tr,oB hlow x fun i hi=>h i (.inl hi),oB hlow y fun i hi=>h i (.inr hi)]
 | .iface t v,h=>by simp only[s7] at h;simp[P9,tr,GJ hlow v h]
 | .agg ⟨l⟩,h=>by simp only[s7] at h;simp[P9,tr,oB hlow l h]
 | .tuple ⟨l⟩,h=>by simp only[s7] at h;simp[P9,tr,oB hlow l h]
 | .bool _,_=>rfl
 | .int _ _,_=>rfl
 | .float _ _,_=>rfl
 | .complex _ _ _,_=>rfl
 | .string _,_=>rfl
 | .map _,_=>rfl
 | .chan none,_=>rfl
 | .chan (some d),h=>by
  have hb:bW n0 f μ ν d:=by
   by_cases hn:n0≤d
   ·exact h d (by simp only[s7];rw[if_pos (by rw[Nat.ble_eq];exact hn)];simp)
   ·exact hlow d (by omega)
  unfold bW at hb
  simp[P9,tr,hb]
 | .nilFunc,_=>rfl
 | .nilIface,_=>rfl
theorem oB (hlow:∀ i,i<n0→bW n0 f μ ν i):∀ (l:List Value),(∀ i ∈ z0 n0 l,bW n0 f μ ν i)→E9 ν (R7 f l)=E9 μ l
 | [],_=>rfl
 |v::r,h=>by
  simp only[z0,List.mem_append] at h
  simp[R7,E9,GJ hlow v fun i hi=>h i (.inl hi),oB hlow r fun i hi=>h i (.inr hi)]
end
theorem cG:∀ (l:List Value),(R7 f l).length=l.length
 | []=>rfl
 |v::r=>by simp[R7,cG r]
end
section
variable {n0:Nat} {f:Nat→Nat}
theorem sW (hf:∀ i,i<n0→f i=i) {p:Option Addr} (h:n8 n0 p= []):I2 f p=p:=by
 rcases p with _|⟨b,o,_|k⟩
 ·rfl
 ·rfl
 ·simp only[n8] at h
  split at h
  ·cases h
  ·rename_i hn
   rw[Nat.ble_eq] at hn
   simp[I2,hf b (by omega)]
mutual
theorem iB (hf:∀ i,i<n0→f i=i):∀ (v:Value),s7 n0 v= []→P9 f v=v
 | .pointer p,h=>by simp only[s7] at h;simp[P9,sW hf h]
 | .slice p n c,h=>by simp only[s7] at h;simp[P9,sW hf h]
 | .func fn ⟨x⟩ ⟨y⟩,h=>by
  simp only[s7,List.append_eq_nil_iff] at h
  simp[P9,jR hf x h.1,jR hf y h.2]
 | .iface t v,h=>by simp only[s7] at h;simp[P9,iB hf v h]
 | .agg ⟨l⟩,h=>by simp only[s7] at h;simp[P9,jR hf l h]
 | .tuple ⟨l⟩,h=>by simp only[s7] at h;simp[P9,jR hf l h]
 | .bool _,_=>rfl
 | .int _ _,_=>rfl
 | .float _ _,_=>rfl
 | .complex _ _ _,_=>rfl
 | .string _,_=>rfl
 | .map _,_=>rfl
 | .chan none,_=>rfl
 | .chan (some d),h=>by
  simp only[s7] at h
  split at h
  ·cases h
  ·rename_i hn
   rw[Nat.ble_eq] at hn
   simp[P9,hf d (by omega)]
 | .nilFunc,_=>rfl
 | .nilIface,_=>rfl
theorem jR (hf:∀ i,i<n0→f i=i):∀ (l:List Value),z0 n0 l= []→R7 f l=l
 | [],_=>rfl
 |v::r,h=>by
  simp only[z0,List.append_eq_nil_iff] at h
  simp[R7,iB hf v h.1,jR hf r h.2]
end
end
theorem sV {n0:Nat} {p:Option Addr}:∀ i ∈ n8 n0 p,n0≤i:=by
 intro i hi
 rcases p with _|⟨b,o,_|k⟩<;>simp only[n8] at hi
 ·cases hi
 ·cases hi
 ·split at hi
  ·rename_i h;rw[Nat.ble_eq] at h;simp at hi;omega
  ·cases hi
mutual
theorem pK {n0:Nat}:∀ (v:Value),∀ i ∈ s7 n0 v,n0≤i
 | .pointer p,i,h=>sV i (by simpa only[s7] using h)
 | .slice p n c,i,h=>sV i (by simpa only[s7] using h)
 | .func fn ⟨x⟩ ⟨y⟩,i,h=>by
  simp only[s7,List.mem_append] at h
  exact h.elim (eK x i) (eK y i)
 | .iface t v,i,h=>pK v i (by simpa only[s7] using h)
 | .agg ⟨l⟩,i,h=>eK l i (by simpa only[s7] using h)
 | .tuple ⟨l⟩,i,h=>eK l i (by simpa only[s7] using h)
 | .bool _,i,h=>by simp[s7] at h
 | .int _ _,i,h=>by simp[s7] at h
 | .float _ _,i,h=>by simp[s7] at h
 | .complex _ _ _,i,h=>by simp[s7] at h;omega
 | .string _,i,h=>by simp[s7] at h
 | .map _,i,h=>by simp[s7] at h
 | .chan none,i,h=>by simp[s7] at h
 | .chan (some d),i,h=>by
  simp only[s7] at h
  split at h
  ·rename_i hn;rw[Nat.ble_eq] at hn;simp at h;omega
  ·cases h
 | .nilFunc,i,h=>by simp[s7] at h
 | .nilIface,i,h=>by simp[s7] at h
theorem eK {n0:Nat}:∀ (l:List Value),∀ i ∈ z0 n0 l,n0≤i
 | [],i,h=>by simp[z0] at h
 |v::r,i,h=>by
  simp only[z0,List.mem_append] at h
  exact h.elim (pK v i) (eK r i)
end
theorem eO (n0:Nat) (h:m0):∀ (f:Nat) (todo done d:List Nat),cE n0 h f todo done=some d→(∀ i ∈ todo,n0≤i)→done.Nodup→
  d.Nodup∧(∀ i ∈ done,i ∈ d)∧(∀ i ∈ todo,i ∈ d)∧(∀ i ∈ d,i ∈ done∨n0≤i∧∃ b,g9 h i=some b∧∀ j ∈ z0 n0 b.cells,j ∈ d)
 |f,[],done,d,e,_,hn=>by
  cases f<;>simp[cE] at e<;>subst e<;>exact ⟨hn,fun _ hi=>hi,⟨fun _ hi=>(List.not_mem_nil hi).elim,fun _ hi=>Or.inl hi⟩⟩
 |0,_::_,done,d,e,_,_=>by simp[cE] at e
 |f+1,i::todo,done,d,e,hge,hn=>by
  simp only[cE] at e
  split at e
  ·rename_i hi
   rw[l8] at hi
   obtain ⟨h1,h2,h3,h4⟩:=eO n0 h f todo done d e (fun j hj=>hge j (List.mem_cons_of_mem _ hj)) hn
   exact ⟨h1,h2,fun j hj=>by rcases List.mem_cons.1 hj with rfl|hj;exact h2 _ hi;exact h3 j hj,h4⟩
  ·rename_i hi
   rw[l8] at hi
   simp only[Option.bind_eq_some_iff] at e
   obtain ⟨b,hb,e⟩:=e
   obtain ⟨h1,h2,h3,h4⟩:=eO n0 h f _ (i::done) d e (fun j hj=>by
    rcases List.mem_append.1 hj with hj|hj
    ·exact eK _ j hj
    ·exact hge j (List.mem_cons_of_mem _ hj)) (List.nodup_cons.2 ⟨hi,hn⟩)
   refine ⟨h1,fun j hj=>h2 j (List.mem_cons_of_mem _ hj),fun j hj=>?_,fun j hj=>?_⟩
   ·rcases List.mem_cons.1 hj with rfl|hj
    ·exact h2 _ List.mem_cons_self
    ·exact h3 j (List.mem_append.2 (.inr hj))
   ·rcases h4 j hj with h5|h5
    ·rcases List.mem_cons.1 h5 with rfl|h5
     ·exact .inr ⟨hge j List.mem_cons_self,b,hb,fun k hk=>h3 k (List.mem_append.2 (.inl hk))⟩
     ·exact .inl h5
    ·exact .inr h5
theorem rL {n0:Nat} {h:m0} {l d:List Nat} (e:pQ n0 h l=some d):∃ f,cE n0 h f l []=some d:=by
 unfold pQ at e
 split at e
 ·rename_i d' hd';cases e;exact ⟨_,hd'⟩
 ·exact ⟨_,e⟩
theorem aZ:∀ (l:List Nat) (i:Nat),i ∈ l→J8 i l<l.length∧l[J8 i l]? =some i
 | [],i,h=>by cases h
 |j::r,i,h=>by
  simp only[J8]
  by_cases hij:i=j
  ·rw[if_pos (j7.2 hij)];simp[hij]
  ·rw[if_neg (by rw[j7];exact hij)]
   have:=aZ r i ((List.mem_cons.1 h).resolve_left hij)
   exact ⟨by simp[this.1],by simp only[List.getElem?_cons_succ];exact this.2⟩
theorem hY {n0:Nat} {h:m0} {ord:List Nat}:∀ (l:List Nat) {bs:List w7},bE n0 h ord l=some bs→bs.length=l.length∧
  ∀ (k i:Nat),l[k]? =some i→∃ b,g9 h i=some b∧bs[k]? =some {b with cells:=R7 (A6 n0 ord) b.cells}
 | [],bs,e=>by simp[bE] at e;subst e;simp
 |j::r,bs,e=>by
  simp only[bE,Option.bind_eq_some_iff,Option.map_eq_some_iff] at e
  obtain ⟨b,hb,bs',hbs,rfl⟩:=e
  obtain ⟨h1,h2⟩:=hY r hbs
  refine ⟨by simp[h1],fun k i hk=>?_⟩
  cases k with
  |zero=>simp at hk;subst hk;exact ⟨b,hb,rfl⟩
  |succ k=>simp at hk;simpa using h2 k i hk
theorem D8.back {sf:St} {wf:World} {μf:Mu} (hr:D8 G μ s w) (hf:D8 (uK G.w0 w s.next) μf sf wf) (hle:U0 s μ sf μf) {ord:List Nat} {bs:List w7} (hn:ord.Nodup)
  (hord:∀ i ∈ ord,s.next≤i∧∃ b,g9 sf.heap i=some b∧∀ j ∈ z0 s.next b.cells,j ∈ ord) (hb:bE s.next sf.heap ord ord=some bs) {v c:Value} (hv:tr μf v=some c) (hvi:∀ i ∈ s7 s.next v,i ∈ ord):
  t9 G μ s w (P9 (A6 s.next ord) v) bs c wf:=by
 obtain ⟨b1,b2⟩:=hY ord hb
 have hp:sf.prot=s.next:=hf.pr
 let ν:Mu:=fun i=>if i<s.next then μ i else match ord[i - s.next]? with|some j=>μf j|none=>none
 have hlow:∀ i,i<s.next→bW s.next (A6 s.next ord) μf ν i:=by
  intro i hi
  have e1:A6 s.next ord i=i:=by unfold A6;rw[if_pos (by rw[Nat.blt_eq];exact hi)]
  unfold bW
  rw[e1]
  show (if i<s.next then μ i else _)=μf i
  rw[if_pos hi]
  exact (hle.ag i hi).symm
 have hin:∀ i,i ∈ ord→bW s.next (A6 s.next ord) μf ν i:=by
  intro i hi
  have hge:=(hord i hi).1
  obtain ⟨k1,k2⟩:=aZ ord i hi
  have e1:A6 s.next ord i=s.next+J8 i ord:=by unfold A6;rw[if_neg (by rw[Nat.blt_eq];omega)]
  unfold bW
  rw[e1]
  show (if s.next+J8 i ord<s.next then _ else match ord[s.next+J8 i ord - s.next]? with|some j=>μf j|none=>none)=μf i
  rw[if_neg (by omega),show s.next+J8 i ord - s.next=J8 i ord by omega,k2]
 have hνle:Mu.le μ ν:=by
  intro i l h
  have hi:i<s.next:=by
   rcases Nat.lt_or_ge i s.next with h'|h'
   ·exact h'
   ·rw[hr.dom i h'] at h;cases h
  show (if i<s.next then μ i else _)=some l
  rw[if_pos hi]
  exact h
 have hbel:Below w.heap.size w wf:=hf.bp.below
 have hnew:∀ i b,s.next≤i→i<s.next+bs.length→bs[i - s.next]? =some b→∃ j bj l,ord[i - s.next]? =some j∧g9 sf.heap j=some bj∧μf j=some l∧ν i=some l∧w.heap.size≤l.blk∧mG ν wf l b:=by
  intro i b h1 h2 h3
  obtain ⟨j,hj⟩:∃ j,ord[i - s.next]? =some j:=by
   have:i - s.next<ord.length:=by omega
   exact ⟨_,List.getElem?_eq_getElem this⟩
  obtain ⟨bj,c1,c2⟩:=b2 _ j hj
  rw[h3] at c2
  have c2':=(Option.some.inj c2)
  have hjm:=List.mem_of_getElem? hj
  obtain ⟨hge,bj',hbj',hcl⟩:=hord j hjm
  rw[c1] at hbj'
  cases hbj'
  obtain ⟨l,l1,l2,l3,arr,fz,a1,a2,a3,a4,a5⟩:=hf.blk j bj c1
  have hνi:ν i=some l:=by
   show (if i<s.next then μ i else match ord[i - s.next]? with|some j=>μf j|none=>none)=some l
   rw[if_neg (by omega),hj]
   exact l1
  refine ⟨j,bj,l,hj,c1,l1,hνi,Nat.le_of_not_lt (l3 (by rw[hp];exact hge)),arr,fz,(by rw[c2'];exact a1),a2,?_,?_,?_⟩
  ·intro k u hk
   rw[c2'] at hk
   have hk':k<bj.cells.length:=by
    rcases Nat.lt_or_ge k bj.cells.length with h'|h'
    ·exact h'
    ·simp only at hk;rw[List.getElem?_eq_none (by rw[cG];exact h')] at hk;cases hk
   obtain ⟨cu,d1,d2⟩:=a3 k (bj.cells[k]) (by simp[hk'])
   refine ⟨cu,d1,?_⟩
   have hall:∀ (l:List Value) (k:Nat),(R7 (A6 s.next ord) l)[k]? =(l[k]?).map (P9 (A6 s.next ord)):=by
    intro l
    induction l with
    |nil=>intro k;simp[R7]
    |cons x l ih=>intro k;cases k<;>simp[R7,ih]
   simp only[hall,List.getElem?_eq_getElem hk',Option.map_some,Option.some.injEq] at hk
   subst hk
   rw[GJ hlow]
   ·exact d2
   ·intro i' hi'
    refine hin i' (hcl i' ?_)
    have hsub:∀ (l:List Value) (k:Nat) (x:Value),l[k]? =some x→∀ i ∈ s7 s.next x,i ∈ z0 s.next l:=by
     intro l
     induction l with
     |nil=>intro k x h;simp at h
     |cons y l ih=>
      intro k x h i hi
      simp only[z0,List.mem_append]
      cases k with
      |zero=>simp at h;subst h;exact .inl hi
      |succ k=>simp at h;exact .inr (ih k x h i hi)
    exact hsub bj.cells k _ (by simp[hk']) i' hi'
  ·rw[c2'];simp only[cG];exact a4
  ·rw[c2'];simp only[cG];exact a5
 refine ⟨ν,⟨hνle,by simp[St.push],fun j hj=>if_pos hj⟩,?_,⟨hf.b0,?_,hr.le,?_,?_,?_,?_,?_,hr.pr⟩,hbel⟩
 ·rw[GJ hlow v fun i hi=>hin i (hvi i hi)];exact hv
 ·exact hr.bp.trans (L1.of hbel fun k hk=>hr.fxlt hk)
 ·intro i b hi
  simp only[St.push] at hi
  rw[x7] at hi
  split at hi
  ·rename_i hc
   obtain ⟨j,bj,l,_,_,_,h1,h2,h3⟩:=hnew i b hc.1 hc.2 hi
   exact ⟨l,h1,Nat.le_trans hr.size0 h2,fun _ hk=>by have:=hr.fxlt hk;omega,h3⟩
  ·obtain ⟨l,l1,l2,l3,l4⟩:=hr.blk i b hi
   exact ⟨l,hνle _ _ l1,l2,l3,l4.mono hνle (hbel.block _ l4.lt)⟩
 ·intro i j b d l m hi hj hij hil hjm
  simp only[St.push] at hi hj
  rw[x7] at hi hj
  split at hi
  ·rename_i hc
   obtain ⟨i',bi,l',o1,g1,m1,n1,q1,_⟩:=hnew i b hc.1 hc.2 hi
   rw[n1] at hil
   cases hil
   split at hj
   ·rename_i hc2
    obtain ⟨j',bj,m',o2,g2,m2,n2,q2,_⟩:=hnew j d hc2.1 hc2.2 hj
    rw[n2] at hjm
    cases hjm
    refine hf.sep i' j' bi bj _ _ g1 g2 ?_ m1 m2
    intro e
    subst e
    have:i - s.next=j - s.next:=by
     have k1:i - s.next<ord.length:=by omega
     have k2:j - s.next<ord.length:=by omega
     rw[List.getElem?_eq_getElem k1] at o1
     rw[List.getElem?_eq_getElem k2] at o2
     have o1':=Option.some.inj o1
     have o2':=Option.some.inj o2
     exact (List.getElem_inj hn).1 (o1'.trans o2'.symm)
    omega
   ·obtain ⟨m',m1',_,_,m4⟩:=hr.blk j d hj
    rw[hνle _ _ m1'] at hjm
    cases hjm
    have:=m4.lt
    omega
  ·obtain ⟨l',l1',_,_,l4⟩:=hr.blk i b hi
   rw[hνle _ _ l1'] at hil
   cases hil
   split at hj
   ·rename_i hc2
    obtain ⟨j',bj,m',o2,g2,m2,n2,q2,_⟩:=hnew j d hc2.1 hc2.2 hj
    rw[n2] at hjm
    cases hjm
    have:=l4.lt
    omega
   ·obtain ⟨m',m1',_,_,m4⟩:=hr.blk j d hj
    rw[hνle _ _ m1'] at hjm
    cases hjm
    exact hr.sep i j b d _ _ hi hj hij l1' m1'
 ·simp only[St.push]
  exact nP _ _ _ hr.nd hr.lt
 ·intro i hi
  simp only[St.push] at hi ⊢
  rcases eL _ _ _ i hi with h|h
  ·have:=hr.lt i h;omega
  ·omega
 ·intro i hi
  simp only[St.push] at hi
  show (if i<s.next then μ i else match ord[i - s.next]? with|some j=>μf j|none=>none)=none
  rw[if_neg (by omega),List.getElem?_eq_none (by omega)]
theorem bN2 {sf:St} {wf:World} {μf:Mu} (hr:D8 G μ s w) (hf:D8 (uK G.w0 w s.next) μf sf wf) (hle:U0 s μ sf μf) {v v' c:Value} (hg:gc s.next sf.heap v=some (v',bs)) (hv:tr μf v=some c):
  t9 G μ s w v' bs c wf:=by
 unfold gc at hg
 split at hg
 ·rename_i he
  simp only[Option.some.injEq,Prod.mk.injEq] at hg
  obtain ⟨rfl,rfl⟩:=hg
  have:=hr.back hf hle (ord:= []) (bs:= []) List.nodup_nil (fun i hi=>by cases hi) rfl hv (fun i hi=>by rw[he] at hi;cases hi)
  rw[iB (fun i hi=>by unfold A6;rw[if_pos (by rw[Nat.blt_eq];exact hi)]) _ he] at this
  exact this
 ·simp only[Option.bind_eq_some_iff,Option.map_eq_some_iff,Prod.mk.injEq] at hg
  obtain ⟨d,hd,bs',hbs,rfl,rfl⟩:=hg
  obtain ⟨f0,hd⟩:=rL hd
  obtain ⟨h1,_,h3,h4⟩:=eO s.next sf.heap _ _ [] d hd (fun i hi=>pK v i hi) List.nodup_nil
  refine hr.back hf hle (by unfold List.Nodup at h1 ⊢;rw[List.pairwise_reverse];exact h1.imp Ne.symm) (fun i hi=>?_) hbs hv (fun i hi=>by simpa using h3 i hi)
  rcases h4 i (by simpa using hi) with h|⟨h5,b,h6,h7⟩
  ·cases h
  ·exact ⟨h5,b,h6,fun j hj=>by simpa using h7 j hj⟩
end Go.Itp
namespace Go.Itp
open Go.RowKit (Below)
variable {P:Program} {G:u9} {μ:Mu} {s s':St} {w:World} {v:Value}
def FC (k:Nat):AC:= .ops [⟨some 0,none,.lib k (.tmp 0)⟩] [0]
def PD:Nat→List (Nat × Option (Option Nat))
 |0=> []
 |_+1=> [(0,none)]
structure QT (P:Program) (f:FuncId) (k:Nat):Prop where
 none:∀ (p:Option Addr) (cap:Nat) (w:World),Calls P f #[.slice p 0 cap] w fun e w'=>e= .returned (uT k p [] cap)∧w'=w
 some:∀ (blk off cap:Nat) (zs:List Int) (w:World),Go.Sort.Holds (Value.int .i64) w blk off zs.toArray→blk<w.heap.size→zs.length<4611686018427387904→zs.length≤cap→
  Calls P f #[.slice (Option.some ⟨blk,off,Option.none⟩) zs.length cap] w fun e w'=>e= .returned (uT k (Option.some ⟨blk,off,Option.none⟩) zs cap)∧∃ n os,w'=Go.Sort.grow (Go.Sort.putRow (Value.int .i64) (Go.Sort.ahead w n) blk off (gY k zs).toArray) os
theorem D8.below {G:u9} {μ:Mu} {s:St} {w w':World} (h:D8 G μ s w) (hb:Below w.heap.size w w'):D8 G μ s w':=
 ⟨h.b0.trans (hb.mono h.size0),h.bp.trans (L1.of hb fun _ hk=>h.fxlt hk),h.le,fun i b e=>by
  obtain ⟨l,h1,h2,h3,h4⟩:=h.blk i b e
  exact ⟨l,h1,h2,h3,h4.mono (Mu.le_refl μ) (hb.block _ h4.lt)⟩,h.sep,h.nd,h.lt,h.dom,h.pr⟩
theorem lN:∀ {cs:List Value} {zs:List Int},qZ cs=some zs→cs=zs.map (Value.int .i64)
 | [],zs,h=>by simp[qZ] at h;subst h;rfl
 |c::r,zs,h=>by
  unfold qZ at h
  split at h
  ·rename_i heq;cases heq
  ·rename_i heq
   simp only[List.cons.injEq] at heq
   obtain ⟨rfl,rfl⟩:=heq
   simp only[Option.map_eq_some_iff] at h
   obtain ⟨zs',h1,rfl⟩:=h
   rw[lN h1];rfl
  ·cases h
theorem MY:∀ (zs:List Int),E9 μ (zs.map (Value.int .i64))=some (zs.map (Value.int .i64))
 | []=>rfl
 |z::r=>by simp[E9,tr,MY r]
theorem aV9 (zs:List Int):(srt zs).length=zs.length:=List.length_mergeSort _
theorem RN (zs:List Int):(cpt zs).length≤zs.length:=by
 unfold cpt
 rw[List.length_map]
 exact Nat.le_trans (List.length_filter_le _ _) (by rw[List.length_range];exact Nat.le_refl _)
theorem KD:∀ (k:Nat) (zs:List Int),(gY k zs).length=zs.length
 |0,zs=>aV9 zs
 |_+1,zs=>by
  have:=RN zs
  simp only[gY,List.length_append,List.length_replicate]
  omega
theorem TD {k:Nat} {a a':Option Addr} {zs:List Int} {c c':Nat} (ha:R2 μ a=some a') (hc:bM μ a c=some c'):tr μ (uT k a zs c)=some (uT k a' zs c'):=by
 cases k with
 |zero=>rfl
 |succ k=>simp only[uT,tr,ha,hc,Option.bind_some,Option.map_some]
theorem WT {x:Value} {u:Value} {s1:St} (hq:FB 0 s x=some (u,s1)):u= .tuple #[]:=by
 unfold FB at hq
 split at hq
 ·split at hq
  ·cases hq;rfl
  ·split at hq
   ·split at hq
    ·cases hq
    ·simp only[Option.bind_eq_some_iff] at hq
     obtain ⟨_,_,_,_,_,_,hq⟩:=hq
     split at hq
     ·simp only[Option.map_eq_some_iff,Prod.mk.injEq] at hq
      obtain ⟨_,_,rfl,_⟩:=hq;rfl
     ·cases hq
    ·cases hq
   ·cases hq
 ·cases hq
theorem aE2 {f:FuncId} {k0:Nat} {x c:Value} (hk:QT P f k0) (h:FB k0 s x=some (v,s')) (hr:D8 G μ s w) (hx:tr μ x=some c):
  Calls P f #[c] w fun e w'=>∃ c,e= .returned c∧Q0 G μ s v s' c w':=by
 unfold FB at h
 split at h
 case h_2=>cases h
 rename_i a n k
 obtain ⟨qa,k',rfl,e2,e3⟩:=E2 hx
 split at h
 ·rename_i h0
  have:=j7.1 h0
  subst this
  cases h
  refine (hk.none qa k' w).mono fun e w' ⟨he,hw⟩=>?_
  subst hw
  exact ⟨_,he,μ,U0.refl s μ,TD e2 e3,hr⟩
 rename_i hn0
 have hn0:n ≠ 0:=fun e=>hn0 (j7.2 e)
 cases a with
 |none=>cases h
 |some a=>
 obtain ⟨b,o,sp⟩:=a
 cases sp with
 |none=>cases h
 |some sp=>
 obtain rfl:sp=0:=by
  cases sp with
  |zero=>rfl
  |succ sp=>cases h
 simp only[Option.bind_eq_some_iff] at h
 obtain ⟨bl,hb,cs,hcs,zs,hzs,h⟩:=h
 split at h
 case isFalse=>cases h
 rename_i hroom
 rw[Bool.and_eq_true,Nat.ble_eq,Nat.ble_eq] at hroom
 obtain ⟨hroom,hkc⟩:=hroom
 simp only[Option.map_eq_some_iff,Prod.mk.injEq] at h
 obtain ⟨s1,hst,rfl,rfl⟩:=h
 obtain ⟨rfl,hlt⟩:=E5 _ _ hcs
 have hz:=lN hzs
 have hzl:zs.length=n:=by
  have:=congrArg List.length hz
  simp only[List.length_take,List.length_drop,List.length_map] at this
  simp only[List.length_drop] at hlt
  omega
 obtain ⟨l,h1,h2,h3,arr,fz,h4,h5,h6,h7,h8⟩:=hr.blk b bl hb
 simp only[R2,pW,Nat.add_zero,h1,Option.map_some,Option.some.injEq] at e2
 subst e2
 have hbl:o+n≤bl.cells.length:=by simp only[List.length_drop] at hlt;omega
 have hez:=h4.esz (by omega)
 have h4:=h4.cells' hez
 obtain ⟨w',h9,h10,hnx,hpr,rfl⟩:=hr.store' (P:=P) (a':=⟨l.blk,l.off+o,none⟩) hst (by simp[R2,pW,h1]) (MY (μ:=μ) (gY k0 zs))
 have hcell:∀ j,j<zs.length→arr[l.off+o+j]? =some (Value.int .i64 zs[j]!):=fun j hj=>by
  obtain ⟨u,u1,u2⟩:=h6 (o+j) (Value.int .i64 zs[j]!) (by
   have e:(zs.map (Value.int .i64))[j]? =some (Value.int .i64 zs[j]!):=by rw[List.getElem?_map,List.getElem?_eq_getElem hj,getElem!_pos zs j hj];rfl
   rw[← hz,List.getElem?_take,if_pos (by omega),List.getElem?_drop] at e
   exact e)
  have u2:u=Value.int .i64 zs[j]! :=by
   have:tr μ (.int .i64 zs[j]!)=some (.int .i64 zs[j]!):=rfl
   rw[this] at u2
   exact (Option.some.inj u2).symm
  rw[← u2,← u1];congr 1;omega
 have hcap:zs.length≤k':=by
  simp only[bM,h1,Option.map_some] at e3
  rw[if_neg (by omega)] at e3
  simp only[Option.some.injEq] at e3
  omega
 have hll:=KD k0 zs
 have hH:Go.Sort.Holds (Value.int .i64) w l.blk (l.off+o) zs.toArray:=fun j hj=>by
  have hj':j<zs.length:=by simpa using hj
  refine ⟨?_,?_⟩
  ·rw[O8 h4,hcell j hj']
   simp[hj']
  ·have:=h5 (l.off+o+j) (by omega) (by omega)
   simp only[World.frozen?,h4]
   simpa using this
 have hbk:l.blk<w.heap.size:=by
  rcases Nat.lt_or_ge l.blk w.heap.size with h'|h'
  ·exact h'
  ·simp[Array.getElem?_eq_none h'] at h4
 subst hzl
 refine (hk.some l.blk (l.off+o) k' zs w hH hbk (by unfold r5 at hroom;omega) hcap).mono fun e w1 ⟨he,m,os,hw⟩=>⟨_,he,μ,U0.same μ hnx,TD (by simp[R2,pW,h1]) e3,h10.below ?_⟩
 subst hw
 obtain ⟨arr',g1,g2,g3,g4,g5,g6,g7,g8⟩:=W4 l.blk _ fz ((gY k0 zs).map (Value.int .i64)) (l.off+o) w arr h4
 refine ⟨g4.symm,g5.symm,g6.symm,?_,fun i hi=>?_⟩
 ·simp only[Go.Sort.grow,Go.Sort.putRow,Go.Sort.mapBlock,Go.Sort.ahead,Array.size_append,Array.size_modify]
  show (w.setCells l.blk (l.off+o) ((gY k0 zs).map (Value.int .i64))).heap.size≤_
  rw[g7];omega
 ·have hi:i<(w.setCells l.blk (l.off+o) ((gY k0 zs).map (Value.int .i64))).heap.size:=hi
  rw[g7] at hi
  simp only[Go.Sort.grow,Go.Sort.putRow,Go.Sort.mapBlock,Go.Sort.ahead]
  rw[Array.getElem?_append_left (by simpa using hi),Array.getElem?_modify]
  by_cases hib:i=l.blk
  ·subst hib
   rw[if_pos rfl,h4,Option.map_some,g1]
   simp only[Go.Sort.onCells]
   congr 2
   apply Array.ext_getElem?
   intro j
   rw[g3 j]
   simp only[Go.Sort.putCells,Array.getElem?_mapIdx,List.length_map,List.size_toArray]
   by_cases hc:l.off+o≤j∧j<l.off+o+(gY k0 zs).length∧j<arr.size
   ·rw[if_pos hc,Array.getElem?_eq_getElem hc.2.2,Option.map_some,if_pos ⟨hc.1,hc.2.1⟩]
    rw[List.getElem?_map,List.getElem?_eq_getElem (by omega)]
    have hj':j - (l.off+o)<(gY k0 zs).length:=by omega
    simp[hj']
   ·rw[if_neg hc]
    by_cases hs:j<arr.size
    ·rw[Array.getElem?_eq_getElem hs,Option.map_some,if_neg (fun h=>hc ⟨h.1,h.2,hs⟩)]
    ·rw[Array.getElem?_eq_none (by omega)];rfl
  ·rw[if_neg (fun e=>hib e.symm),g8 i hib]
end Go.Itp
namespace Go.Itp
open Go.RowKit (Below)
variable {P:Program} {E:D9} {G:u9} {μ:Mu} {s s':St} {w:World} {a:Act} {fr fr':Fr} {v:Value} {bs:List w7} {N:Nat}
def S2 (P:Program):List ResultVar→Option (List (Nat × Option (Option Nat)))
 | []=>some []
 | .tmp t::r=>(S2 P r).map ((t,none)::·)
 | .cell t ty::r=>(kK P ty).bind fun g=>(S2 P r).map ((t,some g)::·)
inductive sS (P:Program) (f:FuncId) (af:p5):Prop where
 |lib (k:Nat):(∃ fn c,P.funcs[f]? =some fn∧fn.body=some c∧(fn.name== "runtime.NumGoroutine")=false)→af=⟨FC k,1,PD k,false⟩→QT P f k→sS P f af
 |code:(∃ fn c ac0,P.funcs[f]? =some fn∧fn.body=some c∧(fn.name== "runtime.NumGoroutine")=false∧fn.ntmps=af.n∧F9 P af.n c ac0=some af.code∧S2 P fn.results.toList=some af.res)→sS P f af
theorem sS.enters {P:Program} {f:FuncId} {af:p5} (h:sS P f af):∃ fn c,P.funcs[f]? =some fn∧fn.body=some c∧(fn.name== "runtime.NumGoroutine")=false:=by
 rcases h with ⟨_,h,_,_⟩|⟨fn,c,ac0,h1,h2,h3,_⟩
 ·exact h
 ·exact ⟨fn,c,h1,h2,h3⟩
def DJ (P:Program) (fns:FuncId→Option p5):Prop:=∀ f af,fns f=some af→sS P f af
def sC (P:Program) (prims:FuncId→List Value→St→Option (Value × List w7)) (w0:World):Prop:=
 ∀ f xs s v bs,prims f xs s=some (v,bs)→∀ G μ w cs,G.w0=w0→D8 G μ s w→E9 μ xs=some cs→aN P f cs.toArray w (t9 G μ s w v bs)
theorem tZ:∀ (xs:List Value) (n i:Nat),E7 (bY n xs) i=if n≤i then xs[i - n]? else none
 | [],n,i=>by simp[bY,E7]
 |v::r,n,i=>by
  simp only[bY,E7]
  by_cases h:i=n
  ·subst h;rw[if_pos (j7.2 rfl)];simp
  ·rw[if_neg (by rw[j7];exact h),tZ r (n+1) i]
   by_cases h2:n+1≤i
   ·rw[if_pos h2,if_pos (by omega),show i - n=(i - (n+1))+1 by omega];simp
   ·rw[if_neg h2,if_neg (by omega)]
theorem YS {xs cs:List Value} (h:E9 μ xs=some cs) (k:Nat):G5 μ (bY 0 xs) (cs.toArray++Array.replicate k undef):=by
 intro i v e
 rw[tZ] at e
 simp at e
 obtain ⟨c,h1,h2⟩:=I3 _ h i v e
 refine ⟨c,?_,h2⟩
 have hi:i<cs.length:=by
  rcases Nat.lt_or_ge i cs.length with h'|h'
  ·exact h'
  ·simp[List.getElem?_eq_none h'] at h1
 rw[Array.getElem?_append_left (by simpa using hi)]
 simpa using h1
def wB (tmps:Array Value):ResultVar→Sem Value
 | .tmp t=>pure (tmps.getD t undef)
 | .cell a t=>do loadVar t (← asAddr (tmps.getD a undef))
theorem lT (hE:aO E G.w0) (hr:D8 G μ s w) {tmps:Array Value} (hf:G5 μ fr tmps):∀ (rs:List ResultVar) (l:List (Nat × Option (Option Nat))) (vs:List Value),S2 P rs=some l→X4 E fr s l=some vs→
  ∃ cs:List Value,(rs.mapM (wB tmps)).run P w= .ok cs w∧E9 μ vs=some cs
 | [],l,vs,h1,h2=>by
  simp[S2] at h1;subst h1
  simp[X4] at h2;subst h2
  exact ⟨[],by simp,rfl⟩
 | .tmp t::r,l,vs,h1,h2=>by
  simp only[S2,Option.map_eq_some_iff] at h1
  obtain ⟨l',hl,rfl⟩:=h1
  simp only[X4,Option.bind_eq_some_iff,Option.map_eq_some_iff] at h2
  obtain ⟨v,hv,vs',hvs,rfl⟩:=h2
  obtain ⟨cs,c1,c2⟩:=lT hE hr hf r l' vs' hl hvs
  obtain ⟨c,d1,d2⟩:=hf t v hv
  have hd:tmps.getD t undef=c:=by simp[Array.getD_eq_getD_getElem?,d1]
  refine ⟨c::cs,?_,by simp[E9,d2,c2]⟩
  simp only[List.mapM_cons,wB,Sem.run_bind,hd,Sem.run_pure,Result.andThen_ok,c1]
 | .cell t ty::r,l,vs,h1,h2=>by
  simp only[S2,Option.bind_eq_some_iff,Option.map_eq_some_iff] at h1
  obtain ⟨g,hg,l',hl,rfl⟩:=h1
  simp only[X4,Option.bind_eq_some_iff] at h2
  obtain ⟨p,hp,h2⟩:=h2
  split at h2
  case h_2=>cases h2
  rename_i ad
  simp only[Option.bind_eq_some_iff,Option.map_eq_some_iff] at h2
  obtain ⟨v,hv,vs',hvs,rfl⟩:=h2
  obtain ⟨cs,c1,c2⟩:=lT hE hr hf r l' vs' hl hvs
  obtain ⟨c,d1,d2⟩:=hf t _ hp
  obtain ⟨q,rfl,e2⟩:=A4 d2
  obtain ⟨b,of,rfl⟩:=E1 e2
  have hd:tmps.getD t undef= .pointer (some ⟨b,of,none⟩):=by simp[Array.getD_eq_getD_getElem?,d1]
  obtain ⟨c,f1,f2⟩:=uU (P:=P) hE hr hg hv e2
  refine ⟨c::cs,?_,by simp[E9,f2,c2]⟩
  simp only[List.mapM_cons,wB,Sem.run_bind,hd,asAddr,Sem.run_pure,Result.andThen_ok,f1,c1]
theorem aM2 {vs cs:List Value} (h:E9 μ vs=some cs):tr μ (G9 vs)=some (G9 cs):=by
 have hl:=C9 _ h
 rcases vs with _|⟨v,_|⟨u,r⟩⟩
 ·rcases cs with _|⟨c,cs⟩
  ·rfl
  ·simp at hl
 ·rcases cs with _|⟨c,_|⟨d,cs⟩⟩
  ·simp at hl
  ·simpa [E9,G9,Option.bind_eq_some_iff] using h
  ·simp at hl
 ·rcases cs with _|⟨c,_|⟨d,cs⟩⟩
  ·simp at hl
  ·simp at hl
  ·simp only[G9,tr]
   rw[h]
   rfl
theorem LX {fn:Func} {tmps:Array Value} {cs:List Value} (h:(fn.results.toList.mapM (wB tmps)).run P w= .ok cs w):
  (results fn tmps).run P w= .ok (G9 cs) w:=by
 have e:results fn tmps=(do let vs ← fn.results.mapM (wB tmps);pure (if h:vs.size=1 then vs[0] else Value.tuple vs)):=by
  unfold results
  congr 1
 rw[e,Array.mapM_eq_mapM_toList]
 simp only[Sem.run_bind,Sem.run_map,h,Result.andThen_ok,Sem.run_pure]
 rcases cs with _|⟨c,_|⟨d,cs⟩⟩<;>simp[G9]
theorem AX {fn:Func} {tmps:Array Value} {R:Ending→World→Prop} (hlast:∀ w',D8 G μ s w'→LeavesInM (FW none) 0 P fn tmps R [] .returning w'):∀ (rs:List Nat) (w:World),rs.Nodup→
  (∀ r ∈ rs,G.w0.heap.size≤r∧¬ G.fx r∧w.heap[r]? =some (.deferred (some [])))→D8 G μ s w→LeavesInM (FW none) 0 P fn tmps R (rs.map vB) .returning w
 | [],w,_,_,hr=>hlast w hr
 |r::rs,w,hn,hm,hr=>by
  rw[List.nodup_cons] at hn
  obtain ⟨h1,h2,h3⟩:=hm r (by simp)
  simp only[List.map_cons,LeavesInM]
  refine ⟨by simp,.inl ⟨r,_,rfl,run_takeDeferred h3,?_⟩⟩
  refine AX hlast rs _ hn.2 (fun q hq=>?_) (hr.putDead _ h1 h2 fun i b l hi hl he=>?_)
  ·obtain ⟨q1,q2,q3⟩:=hm q (by simp[hq])
   exact ⟨q1,q2,by rw[World.putObj_heap_other (k:=q) (fun e=>hn.1 (by rw[← e];exact hq))];exact q3⟩
  ·obtain ⟨l',l1,_,_,arr,fz,hob,_⟩:=hr.blk i b hi
   rw[hl] at l1
   cases l1
   rw[← he] at h3
   rcases hob with ⟨_,_,⟨_,_,_,_,h⟩|⟨_,_,_,h⟩⟩|⟨_,h⟩<;>rw[h] at h3<;>cases h3
theorem sE (hE:r7 P E G.w0 μ) {f:FuncId} {af:p5} (hk:sS P f af) {xs cs:List Value} (hb:body E af xs s=some (v,s')) (hr:D8 G μ s w) (hxs:E9 μ xs=some cs):
  Calls P f cs.toArray w fun e w'=>∃ c,e= .returned c∧Q0 G μ s v s' c w':=by
 rcases hk with ⟨k0,_,rfl,hs⟩|⟨fn,c,ac0,h1,h2,h3,h4,h5,h6⟩
 ·unfold body at hb
  split at hb
  case isFalse=>cases hb
  rename_i hn
  rw[Nat.ble_eq] at hn
  rcases xs with _|⟨x,_|⟨y,r⟩⟩
  ·simp[FC,z9,I1,wanted,step,d6,o9,ev,bY,E7] at hb
  ·have hsa:FB k0 s x=some (v,s'):=by
    simp only[FC,z9,I1,wanted,step,d6,o9,ev,bY,E7,Option.bind_some] at hb
    rw[if_pos (j7.2 rfl)] at hb
    simp only[Option.bind_some] at hb
    cases hq:FB k0 s x with
    |none=>rw[hq] at hb;cases hb
    |some r=>
     obtain ⟨u,s1⟩:=r
     rw[hq] at hb
     have e1:q9 [0] (H6 [(0,x)] (some 0) u)= [(0,u)]:=rfl
     simp only[Option.bind_some,Option.map_some,e1] at hb
     cases k0 with
     |zero=>
      simp only[PD,X4,G9,Option.map_some,Option.some.injEq,Prod.mk.injEq] at hb
      obtain ⟨rfl,rfl⟩:=hb
      rw[WT hq]
     |succ k0=>
      have e2:X4 E [(0,u)] s1 (PD (k0+1))=some [u]:=rfl
      rw[e2] at hb
      simp only[G9,Option.map_some,Option.some.injEq,Prod.mk.injEq] at hb
      obtain ⟨rfl,rfl⟩:=hb
      rfl
   simp only[E9,Option.bind_eq_some_iff,Option.map_eq_some_iff] at hxs
   obtain ⟨c,hc,cs',hcs,rfl⟩:=hxs
   simp at hcs
   subst hcs
   exact aE2 hs hsa hr hc
  ·simp at hn
 unfold body at hb
 split at hb
 case isFalse=>cases hb
 rename_i hn
 rw[Nat.ble_eq] at hn
 have hlen:=C9 _ hxs
 simp only[Option.bind_eq_some_iff] at hb
 obtain ⟨⟨ex,fr1,s1⟩,he,hb⟩:=hb
 refine lD.1 (callsIn_of_wp_marks (F:=FW none) (n:=0) h1 h2 (fK none f) ?_)
 have hsz:(cs.toArray++Array.replicate (fn.ntmps - cs.toArray.size) undef).size=af.n:=by
  simp only[Array.size_append,List.size_toArray,Array.size_replicate];omega
 refine aR1 c ac0 af.code h5 none (.inl rfl) G _ _ μ _ w _ ex fr1 s1 hE he (YS hxs _) hsz hr ?_
 intro G1 ms μ1 a1 w1 g1 mk hle hf1 hN1 hd1 hr1
 have key:∀ (vs:List Value),X4 E fr1 s1 af.res=some vs→G9 vs=v→s1=s'→
   LeavesInM (FW none) 0 P fn a1.tmps (fun e w'=>∃ c,e= .returned c∧Q0 G μ s v s' c w') a1.defers .returning w1:=by
  intro vs hvs hv hs
  subst hv
  subst hs
  obtain ⟨rs,hms,hnd,hrs⟩:=mk
  rw[hd1,hms,List.append_nil]
  refine AX (G:=G) (μ:=μ1) (s:=s1) (fun w' hr'=>?_) rs w1 hnd (fun r hr0=>?_) (hr1.down g1)
  ·obtain ⟨ds,d1,d2⟩:=lT (P:=P) hE.old hr' hf1 _ _ _ h6 hvs
   exact ⟨G9 ds,LX d1,_,rfl,μ1,hle,aM2 d2,hr'⟩
  ·obtain ⟨q1,q2,q3,q4⟩:=hrs r hr0
   exact ⟨q1,q2,by rw[hr1.bp.block r q3];exact q4⟩
 cases ex with
 |exit id=>cases hb
 |normal=>
  simp only[Option.map_eq_some_iff,Prod.mk.injEq] at hb
  obtain ⟨vs,hvs,hv,hs⟩:=hb
  exact key vs hvs hv hs
 |ret=>
  simp only[Option.map_eq_some_iff,Prod.mk.injEq] at hb
  obtain ⟨vs,hvs,hv,hs⟩:=hb
  exact key vs hvs hv hs
theorem AB {f:FuncId} {fn:Func} {c:Code} {args:Array Value} (h1:P.funcs[f]? =some fn) (h2:fn.body=some c) (h3:(fn.name== "runtime.NumGoroutine")=false):(callFunc f args).run P w= .ok (.enter f args) w:=by
 have h3':fn.name ≠ "runtime.NumGoroutine":=by simpa using h3
 simp[callFunc,h1,h2,h3']
theorem Y5 {f:FuncId} {fn:Func} {c:Code} {args:Array Value} {R:Value→World→Prop} (h1:P.funcs[f]? =some fn) (h2:fn.body=some c) (h3:(fn.name== "runtime.NumGoroutine")=false)
  (h:Calls P f args w fun e w'=>∃ c,e= .returned c∧R c w'):aN P f args w R:=by
 intro r o a next Q k
 rw[AB h1 h2 h3,Oper.uponIn_enter]
 exact ⟨sR,lD.2 (h.mono fun e w' ⟨c,he,hR⟩=>by subst he;exact k c w' hR)⟩
theorem aF3 (P:Program) (w0:World) (m:Mu) (d:Nat):dQ P w0 m d (noY d):=fun xs s v s' h=>by simp[noY] at h
theorem HU {old:Nat→Nat→Option Value} {rounds:Nat} {fns:FuncId→Option p5} {prims:FuncId→List Value→St→Option (Value × List w7)} {w0:World}
  (hmix:P.follows .mixedOrders=true) (hold:∀ b o v,old b o=some v→∃ c,w0.cell? ⟨b,o,none⟩=some c∧∀ μ,tr μ v=some c) (hfns:DJ P fns) (hprims:sC P prims w0):∀ (n:Nat) (y:Yh) (m:Mu),(∀ d,dQ P w0 m d (y d))→r7 P (R9 old rounds fns prims n y) w0 m
 |0,y,m,hy=>⟨hmix,fun b o v h=>hold b o v h,fun f xs s v bs h=>by simp[R9] at h,fun f xs s v s' h=>by simp[R9] at h,hy,fun d hd f xs s v s' h=>by simp[R9] at h⟩
 |n+1,y,m,hy=>by
  have ih:=HU (rounds:=rounds) hmix hold hfns hprims n
  refine ⟨hmix,fun b o v h=>hold b o v h,?_,?_,hy,?_⟩
  ·intro f xs s v bs h G μ w cs hG hle hr hxs
   simp only[R9] at h
   split at h
   ·rename_i r hp
    cases h
    exact hprims f xs s v bs hp G μ w cs hG hr hxs
   ·simp only[Option.bind_eq_some_iff] at h
    obtain ⟨af,haf,h⟩:=h
    split at h
    case isFalse=>cases h
    simp only[Option.bind_eq_some_iff] at h
    obtain ⟨⟨u,sf⟩,hb,hg⟩:=h
    have hk:=hfns f af haf
    obtain ⟨fn,c,h1,h2,h3⟩:=hk.enters
    have hr':D8 (uK G.w0 w s.next) μ {s with prot:=s.next} w:=by
     refine ⟨hr.b0,L1.refl _ _,hr.size0,fun i b hi=>?_,hr.sep,hr.nd,hr.lt,hr.dom,rfl⟩
     obtain ⟨l,l1,l2,l3,l4⟩:=hr.blk i b hi
     exact ⟨l,l1,l2,fun hp=>by have:=hr.ltg hi;simp only at hp;omega,l4⟩
    have hcalls:=sE (G:=uK G.w0 w s.next) (by rw[show (uK G.w0 w s.next).w0=w0 from hG];exact ih noY μ (aF3 P w0 μ)) hk hb hr' hxs
    refine Y5 h1 h2 h3 (hcalls.mono fun e w' ⟨c,he,μ',m1,m2,m3⟩=>⟨c,he,?_⟩)
    exact bN2 hr m3 (m1.of rfl) hg m2
  ·intro f xs s v s' h G μ w cs hG hle hr hxs
   simp only[R9,Option.bind_eq_some_iff] at h
   obtain ⟨af,haf,h⟩:=h
   split at h
   ·cases h
   have hk:=hfns f af haf
   obtain ⟨fn,c,h1,h2,h3⟩:=hk.enters
   exact Y5 h1 h2 h3 (sE (by rw[hG];exact (ih y m hy).mono hle) hk h hr hxs)
  ·intro d hd f xs s v s' h m1 hm hh G μ w cs hG hle hr hxs
   simp only[R9,Option.bind_eq_some_iff] at h
   obtain ⟨af,haf,h⟩:=h
   have hk:=hfns f af haf
   obtain ⟨fn,c,h1,h2,h3⟩:=hk.enters
   have hE':r7 P (R9 old rounds fns prims n (NA y d hd)) w0 m1:=ih (NA y d hd) m1 fun i=>?_
   ·exact ⟨AB h1 h2 h3,sE (by rw[hG];exact hE'.mono hle) hk h hr hxs⟩
   unfold NA
   split
   ·rename_i hi
    have:=j7.1 hi
    subst this
    exact hh
   ·exact (hy i).mono hm
theorem ZK {old:Nat→Nat→Option Value} {rounds:Nat} {fns:FuncId→Option p5} {prims:FuncId→List Value→St→Option (Value × List w7)} {w0:World}
  (hmix:P.follows .mixedOrders=true) (hold:∀ b o v,old b o=some v→∃ c,w0.cell? ⟨b,o,none⟩=some c∧∀ μ,tr μ v=some c) (hfns:DJ P fns) (hprims:sC P prims w0) (n:Nat) (m:Mu):r7 P (B6 old rounds fns prims n) w0 m:=
 HU hmix hold hfns hprims n noY m (aF3 P w0 m)
theorem fT (old:Nat→Nat→Option Value) (rounds:Nat) (fns:FuncId→Option p5) (prims:FuncId→List Value→St→Option (Value × List w7)) (n:Nat) (f:FuncId) (xs:List Value) (s:St):
  (B6 old rounds fns prims (n+1)).pcall f xs s=match prims f xs s with
   |some r=>some r
   |none=>(fns f).bind fun af=>if af.pure then (body (B6 old rounds fns prims n) af xs {s with prot:=s.next}).bind fun (v,s')=>gc s.next s'.heap v else none:=rfl
theorem HW (old:Nat→Nat→Option Value) (rounds:Nat) (fns:FuncId→Option p5) (prims:FuncId→List Value→St→Option (Value × List w7)) (n:Nat) (f:FuncId) (xs:List Value) (s:St):
  (B6 old rounds fns prims (n+1)).wcall f xs s=(fns f).bind fun af=>if af.pure then none else body (B6 old rounds fns prims n) af xs s:=rfl
end Go.Itp
namespace Go.Itp
open Go.RowKit (Below)
def L0 (w:World) (b o:Nat):Option Value:=
 match w.cell? ⟨b,o,none⟩ with
 |some (.slice (some ⟨b',o',some k⟩) 0 0)=>some (.complex .f32 b' (yH o' k))
 |some v=>if (s7 0 v).isEmpty then some v else none
 |none=>none
theorem aF8 (w:World) (b o:Nat) (v:Value) (h:L0 w b o=some v):∃ c,w.cell? ⟨b,o,none⟩=some c∧∀ μ,tr μ v=some c:=by
 unfold L0 at h
 split at h
 ·rename_i b' o' k hu
  cases h
  exact ⟨_,hu,fun μ=>by simp only[tr,WD]⟩
 ·rename_i u hu
  split at h
  ·rename_i hc
   cases h
   exact ⟨_,hu,fun μ=>xH _ (by simpa using hc)⟩
  ·cases h
 ·cases h
theorem PK {w:World} {b o:Nat} {v:Value} (h:w.cell? ⟨b,o,none⟩=some v) (h2:s7 0 v= []):L0 w b o=some v:=by
 unfold L0
 rw[h]
 split
 ·rename_i b' o' k hu
  cases hu
  simp[s7,n8] at h2
 ·rename_i u _ hu
  cases hu
  simp[h2]
 ·rename_i hu;cases hu
theorem WY {w:World} {b o b' o' k:Nat} (h:w.cell? ⟨b,o,none⟩=some (.slice (some ⟨b',o',some k⟩) 0 0)):L0 w b o=some (.complex .f32 b' (yH o' k)):=by
 unfold L0
 rw[h]
 rfl
def x8:Nat:=1152921504606846976
def St.empty:St:=⟨[],0,0⟩
theorem bF1 {P:Program} (hmix:P.follows .mixedOrders=true) {fns:FuncId→Option p5} {prims:World→FuncId→List Value→St→Option (Value × List w7)} (hfns:DJ P fns) (hprims:∀ w,sC P (prims w) w) {f:FuncId} {af:p5} (hf:fns f=some af) {xs:List Value} (w:World)
  (hxs:z0 0 xs= []) (n:Nat) {v:Value} {s':St} (h:body (B6 (L0 w) x8 fns (prims w) n) af xs St.empty=some (v,s')) (hv:s7 0 v= []):
  Calls P f xs.toArray w fun e w'=>e= .returned v∧Below w.heap.size w w':=by
 have hr:D8 (uK w w 0) (fun _=>none) St.empty w:=
  ⟨Below.refl _ _,L1.refl _ _,Nat.le_refl _,fun i b hi=>by simp[St.empty,g9] at hi,fun i j b c l m hi=>by simp[St.empty,g9] at hi,by simp[St.empty],fun i hi=>by simp[St.empty] at hi,fun _ _=>rfl,rfl⟩
 refine (sE (G:=(uK w w 0)) (ZK hmix (aF8 w) hfns (hprims w) n _) (hfns f af hf) h hr (eQ xs hxs)).mono fun e w' ⟨c,he,μ',_,h2,h3⟩=>?_
 rw[xH v hv] at h2
 cases h2
 exact ⟨he,h3.b0⟩
inductive bL7 where
 |same
 |indexByte
 |count
 |makeNoZero
def aQ9:bL7→Array Value→Sem Value
 | .same=>Extern.AbiNoEscape.same
 | .indexByte=>Extern.BytealgIndexByte.indexByte
 | .count=>Extern.BytealgCount.count
 | .makeNoZero=>fun _=>stuck "no entry"
structure bL8 (P:Program) (f:FuncId) (k:bL7) (t:TypeId):Prop where
 fn:∃ fn,P.funcs[f]? =some fn∧(fn.name== "runtime.NumGoroutine")=false∧fn.body.isNone=true∧
  (match k with
   | .makeNoZero=>∃ ps r,Extern.findNext fn=none∧Extern.find fn=some (Extern.BytealgMakeNoZero.makeNoZero ps #[r])∧P.underlying r=some (.slice t)
   |k=>Extern.findNext fn=none∧Extern.find fn=some (aQ9 k))
variable {P:Program} {G:u9} {μ:Mu} {s:St} {w:World}
end Go.Itp
namespace Go.Itp
open Go.RowKit (Below)
section
variable {H:Type} {enc:TypeId × Value→H} {P:Program} {w:World} {base:Nat} {spare:Nat→Bool} {held:Bool} {fuel:Nat} {t e:TypeId} {cs:List Value} {d:DataW H} {ps:List MemPlace}
end
def YO (old:Nat→Nat→Option Value) (w:World):Prop:=∀ b o v,old b o=some v→w.cell? ⟨b,o,none⟩=some v∧s7 0 v= []
theorem YO.below {old:Nat→Nat→Option Value} {w w':World} {n:Nat} (h:YO old w) (hn:w.heap.size≤n) (hb:Below n w w'):YO old w':=fun b o v e=>by
 obtain ⟨h1,h2⟩:=h b o v e
 exact ⟨by rw[hb.cell (Nat.lt_of_lt_of_le (World.block_lt_of_cell? _ _ h1) hn)];exact h1,h2⟩
end Go.Itp
namespace Go.Itp
inductive KF where
 |seq (b:AC)
 |block (id:Nat)
abbrev VK:=Option (Ex × Fr × St)
def XN (E:D9):List KF→Ex→Fr→St→VK
 | [],ex,fr,s=>some (ex,fr,s)
 | .seq b::K,.normal,fr,s=>(z9 E b fr s).bind fun r=>XN E K r.1 r.2.1 r.2.2
 | .seq _::K,ex,fr,s=>XN E K ex fr s
 | .block id::K,.exit i,fr,s=>if i=id then XN E K .normal fr s else XN E K (.exit i) fr s
 | .block _::K,ex,fr,s=>XN E K ex fr s
def go (E:D9) (c:AC) (K:List KF) (fr:Fr) (s:St):VK:=(z9 E c fr s).bind fun r=>XN E K r.1 r.2.1 r.2.2
section
variable {E:D9} {K:List KF} {fr:Fr} {s:St}
end
def bD2 (r:VK) (P:Ex→Fr→St→Prop):Prop:=∃ ex fr s,r=some (ex,fr,s)∧P ex fr s
theorem bD2.mono {r:VK} {P Q:Ex→Fr→St→Prop} (h:bD2 r P) (hq:∀ ex fr s,P ex fr s→Q ex fr s):bD2 r Q:=by
 obtain ⟨ex,fr,s,e,p⟩:=h
 exact ⟨ex,fr,s,e,hq _ _ _ p⟩
theorem H5 (i j:Nat) (v:Value) (r:Fr):E7 ((j,v)::r) i=if i=j then some v else E7 r i:=by
 simp only[E7]
 by_cases h:i=j
 ·rw[if_pos (j7.2 h),if_pos h]
 ·rw[if_neg (by rw[j7];exact h),if_neg h]
theorem aB0 (i:Nat) (v:Value):pE [] i v= [(i,v)]:=rfl
theorem OZ (i j:Nat) (u v:Value) (r:Fr):pE ((j,u)::r) i v=if i=j then (i,v)::r else if i<j then (i,v)::(j,u)::r else (j,u)::pE r i v:=by
 simp only[pE]
 by_cases h:i=j
 ·rw[if_pos (j7.2 h),if_pos h]
 ·rw[if_neg (by rw[j7];exact h),if_neg h]
  by_cases h2:i<j
  ·rw[if_pos (by rw[Nat.blt_eq];exact h2),if_pos h2]
  ·rw[if_neg (by rw[Nat.blt_eq];exact h2),if_neg h2]
theorem AA (i:Nat):m8 i []=false:=rfl
theorem qP (i j:Nat) (r:List Nat):m8 i (j::r)=if i=j then true else m8 i r:=by
 simp only[m8]
 by_cases h:i=j
 ·rw[if_pos (j7.2 h),if_pos h]
 ·rw[if_neg (by rw[j7];exact h),if_neg h]
theorem IS (ks:List Nat) (j:Nat) (v:Value) (r:Fr):q9 ks ((j,v)::r)=if m8 j ks=true then (j,v)::q9 ks r else q9 ks r:=rfl
section
variable (E:D9)
section
variable (fr:Fr) (s:St)
end
end
def jM {α β:Type} (f:α→Option β) (a:Option α):Option β:=a.bind f
def jN {α β γ:Type} (f:α→β→Option γ) (a:Option α) (b:Option β):Option γ:=a.bind fun x=>b.bind fun y=>f x y
theorem KN {α β:Type} (f:α→Option β) (a:α):jM f (some a)=f a:=rfl
theorem KO {α β γ:Type} (f:α→β→Option γ) (a:α) (b:β):jN f (some a) (some b)=f a b:=rfl
def bA6 (e:Nat):Value→Value→Option Value
 | .slice (some a) n _,i=>(z6 i n).map fun i=> .pointer (some (A7 a (i*e)))
 |_,_=>none
def bN9 (t:Bool):Value→Option Value
 | .slice _ n _=>if t then none else some (.int .i64 n)
 | .complex _ _ _=>if t then none else some (.int .i64 0)
 | .string b=>if t then some (.int .i64 b.size) else none
 |_=>none
theorem OK {E:D9} {s:St} {v:Value} {xs ys:List Value} {f:FuncId} (h:V9 v xs=some (f,ys)):HY E v xs s=E.wcall f ys s:=by
 unfold HY
 split
 ·simp[V9] at h
 ·rw[h];rfl
def aQ1 (E:D9) (s:St) (t:TypeId) (e b:Nat) (x y:Value):Option (Value × St):=
 match W6 E s t e b x y with
 |some r=>some (r.1,s.push r.2)
 |none=>fR E s t e b x y
section
variable (E:D9) (fr:Fr) (s:St)
end
theorem aR {p:Prop} [Decidable p] (h:p):decide p=true:=by simp[h]
theorem cU {p:Prop} [Decidable p] (h:¬ p):decide p=false:=by simp[h]
theorem aZ4 (k:IntKind) (x y:Int):I6 .lss (.int k x) (.int k y)=some (.bool (decide (x<y))):=by simp[I6]
theorem aZ3 (k:IntKind) (x y:Int):I6 .leq (.int k x) (.int k y)=some (.bool (decide (x≤y))):=by simp[I6]
theorem aZ2 (k:IntKind) (x y:Int):I6 .gtr (.int k x) (.int k y)=some (.bool (decide (y<x))):=by simp[I6]
theorem aZ1 (k:IntKind) (x y:Int):I6 .geq (.int k x) (.int k y)=some (.bool (decide (y≤x))):=by simp[I6]
theorem aZ0 (k:IntKind) (x y:Int):I6 .eql (.int k x) (.int k y)=some (.bool (decide (x=y))):=by
 simp only[I6,if_true,Option.some.injEq,Value.bool.injEq]
 rw[Bool.eq_iff_iff];simp
theorem aZ6 (k:IntKind) (x y:Int):I6 .neq (.int k x) (.int k y)=some (.bool (decide (¬ x=y))):=by
 simp only[I6,if_true,Option.some.injEq,Value.bool.injEq]
 rw[Bool.eq_iff_iff];simp
theorem aY9 (k:IntKind) (x y:Int):I6 .add (.int k x) (.int k y)=some (.int k (k.wrap (x+y))):=by simp[I6]
theorem aZ7 (k:IntKind) (x y:Int):I6 .sub (.int k x) (.int k y)=some (.int k (k.wrap (x - y))):=by simp[I6]
theorem aZ5 (k:IntKind) (x y:Int):I6 .mul (.int k x) (.int k y)=some (.int k (k.wrap (x*y))):=by simp[I6]
theorem bM0 (k:IntKind) (x y:Int) (h:y ≠ 0):I6 .quo (.int k x) (.int k y)=some (.int k (k.wrap (x.tdiv y))):=by simp[I6,h]
theorem bM1 (k:IntKind) (x y:Int) (h:y ≠ 0):I6 .rem (.int k x) (.int k y)=some (.int k (x.tmod y)):=by simp[I6,h]
theorem yV (k:IntKind) (x y:Int) (h0:0≤x) (h:0<y):I6 .quo (.int k x) (.int k y)=some (.int k (k.wrap (x / y))):=by
 rw[bM0 k x y (by omega),Int.tdiv_eq_ediv_of_nonneg h0]
theorem yW (k:IntKind) (x y:Int) (h0:0≤x) (h:0<y):I6 .rem (.int k x) (.int k y)=some (.int k (x % y)):=by
 rw[bM1 k x y (by omega),Int.tmod_eq_emod_of_nonneg h0]
theorem OH (a b:ByteArray):I6 .eql (.string a) (.string b)=some (.bool (decide (a=b))):=by
 simp only[I6,Option.some.injEq,Value.bool.injEq]
 rw[Bool.eq_iff_iff]
 simp only[beq_iff_eq,decide_eq_true_eq]
 rw[ByteArray.toList_eq,ByteArray.toList_eq]
 constructor
 ·intro h
  apply ByteArray.ext
  have:=congrArg List.toArray h
  simpa using this
 ·intro h;rw[h]
theorem YU (a b:ByteArray):I6 .neq (.string a) (.string b)=some (.bool (decide (¬ a=b))):=by
 have h:=OH a b
 simp only[I6,Option.some.injEq,Value.bool.injEq] at h ⊢
 rw[h]
 rw[Bool.eq_iff_iff];simp
theorem QQ (x:Int) (h1: -9223372036854775808≤x) (h2:x<9223372036854775808):IntKind.i64.wrap x=x:=by
 simp[IntKind.wrap,IntKind.bits,IntKind.signed]
 omega
theorem aY6 (x:Int) (h1:0≤x) (h2:x<256):IntKind.u8.wrap x=x:=by
 simp[IntKind.wrap,IntKind.bits,IntKind.signed]
 omega
theorem bC7 (b:Bool):unA .not (.bool b)=some (.bool (!b)):=rfl
theorem bC6 (k:IntKind) (n:Int):unA .neg (.int k n)=some (.int k (k.wrap (0 - n))):=rfl
theorem rH (p:Prop) [Decidable p]:(!(decide p))=decide (¬ p):=by by_cases h:p<;>simp[h]
theorem cZ (k:IntKind) (z:Int) (n:Nat) (h0:0≤z) (h1:z<n):z6 (.int k z) n=some z.toNat:=by simp[z6,h0,h1]
theorem BD {α:Type} (x:α) (r:List α):B7 (x::r) 0=some x:=rfl
theorem BC {α:Type} (x:α) (r:List α) (n:Nat):B7 (x::r) (n+1)=B7 r n:=rfl
section
variable {E:D9} {K:List KF} {fr:Fr} {s:St} {P:Ex→Fr→St→Prop}
end
def tJ:Option Addr→Nat
 |some ⟨b,_,some _⟩=>b+1
 |_=>0
def cL:Value→Nat
 | .slice a _ _=>tJ a
 | .pointer a=>tJ a
 |_=>0
def elP:Value→Nat→Value
 | .slice (some a) _ _,k=> .pointer (some (A7 a k))
 |_,_=> .pointer none
def cK (old:Nat→Nat→Option Value) (h:m0) (a:Addr):Option Value:=
 match a.spot with
 |none=>old a.block a.off
 |some 0=>(g9 h a.block).bind fun b=>B7 b.cells a.off
 |some (_+1)=>none
def bA9 (old:Nat→Nat→Option Value) (h:m0):Value→Option Value
 | .pointer (some a)=>cK old h a
 |_=>none
def bI1 (old:Nat→Nat→Option Value) (h:m0) (e n:Nat) (v:Value):Option (List Value):=r9 ⟨fun _ _ _=>none,fun _ _ _=>none,old,0,noY,fun _ _ _ _ _=>none⟩ h e n v
theorem j8 (old:Nat→Nat→Option Value) (r:Nat) (fns:FuncId→Option p5) (prims:FuncId→List Value→St→Option (Value × List w7)):∀ n,(B6 old r fns prims n).rounds=r
 |0=>rfl
 |_+1=>rfl
theorem eJ (h:m0) (n i:Nat) (bs:List w7) (hi:i<n):g9 (w6 h n bs) i=g9 h i:=by
 rw[x7,if_neg (by omega)]
theorem yJ (h:m0) (n i:Nat) (b:w7) (hi:i=n):g9 (w6 h n [b]) i=some b:=by
 subst hi;rw[x7,if_pos (by simp)];simp
theorem gJ:∀ (h:m0) (i j:Nat) (b:w7),¬ j=i→g9 (A1 h i b) j=g9 h j
 | [],_,_,_,_=>rfl
 |(k,u)::r,i,j,b,hj=>by
  simp only[A1]
  by_cases hk:i=k
  ·rw[if_pos (j7.2 hk)]
   simp only[g9]
   rw[if_neg (by rw[j7];omega),if_neg (by rw[j7];omega)]
  ·rw[if_neg (by rw[j7];exact hk)]
   simp only[g9]
   rw[gJ r i j b hj]
theorem cD:∀ (h:m0) (i j:Nat),¬ j=i→g9 (G0 h i) j=g9 h j
 | [],_,_,_=>rfl
 |(k,u)::r,i,j,hj=>by
  simp only[G0]
  by_cases hk:i=k
  ·rw[if_pos (j7.2 hk)]
   simp only[g9]
   rw[if_neg (by rw[j7];omega)]
  ·rw[if_neg (by rw[j7];exact hk)]
   simp only[g9]
   rw[cD r i j hj]
def HX (n:Nat) (h0 h:m0):Prop:=∀ i,i<n→g9 h i=g9 h0 i
theorem HX.refl (n:Nat) (h:m0):HX n h h:=fun _ _=>rfl
theorem HX.trans {n m:Nat} {a b c:m0} (h:HX n a b) (k:HX m b c) (hm:n≤m):HX n a c:=fun i hi=>by rw[k i (by omega),h i hi]
theorem HX.push {n m:Nat} {h0 h:m0} (hx:HX n h0 h) (bs:List w7) (hm:n≤m):HX n h0 (w6 h m bs):=fun i hi=>by rw[eJ _ _ _ _ (by omega),hx i hi]
theorem HX.set {n i:Nat} {h0 h:m0} (hx:HX n h0 h) (b:w7) (hi:n≤i):HX n h0 (A1 h i b):=fun j hj=>by rw[gJ _ _ _ _ (by omega),hx j hj]
theorem HX.del {n i:Nat} {h0 h:m0} (hx:HX n h0 h) (hi:n≤i):HX n h0 (G0 h i):=fun j hj=>by rw[cD _ _ _ (by omega),hx j hj]
structure Rd {α:Type} (old:Nat→Nat→Option Value) (h:m0) (f:α→Value) (v:Value) (l:List α):Prop where
 is:(∃ a c,v= .slice a l.length c∧l.length≤y8 c∧((a=none∧l= [])∨∃ ad,a=some ad∧(∀ i,tJ (some ad)=i+1→∃ b,g9 h i=some b)∧∀ k (hk:k<l.length),cK old h (A7 ad k)=some (f l[k])))∨
  (l= []∧∃ k b n,v= .complex k b n)
section
variable {α:Type} {old:Nat→Nat→Option Value} {h:m0} {f:α→Value} {v:Value} {l:List α}
theorem Rd.len (r:Rd old h f v l):bN9 false v=some (.int .i64 l.length):=by
 rcases r.is with ⟨a,c,rfl,_⟩|⟨rfl,k,b,n,rfl⟩<;>rfl
theorem Rd.lenA (r:Rd old h f v l):lenA v=some l.length:=by
 rcases r.is with ⟨a,c,rfl,_⟩|⟨rfl,k,b,n,rfl⟩<;>rfl
theorem Rd.idx (r:Rd old h f v l) (kd:IntKind) (z:Int) (h0:0≤z) (h1:z<l.length):bA6 1 v (.int kd z)=some (elP v z.toNat):=by
 rcases r.is with ⟨a,c,rfl,_,h2⟩|⟨rfl,_⟩
 case inr=>simp at h1;omega
 rcases h2 with ⟨rfl,rfl⟩|⟨ad,rfl,hb,h2⟩
 ·simp at h1;omega
 ·simp only[bA6,cZ kd z _ h0 h1,Option.map_some,Nat.mul_one,elP]
theorem Rd.load [Inhabited α] (r:Rd old h f v l) (k:Nat) (hk:k<l.length):bA9 old h (elP v k)=some (f l[k]!):=by
 rcases r.is with ⟨a,c,rfl,_,h2⟩|⟨rfl,_⟩
 case inr=>simp at hk
 rcases h2 with ⟨rfl,rfl⟩|⟨ad,rfl,hb,h2⟩
 ·simp at hk
 ·simp only[elP,bA9,h2 k hk,getElem!_pos l k hk]
theorem VM {old:Nat→Nat→Option Value} {h h':m0} {ad:Addr} (k:Nat) (hh:∀ i,tJ (some ad)=i+1→g9 h' i=g9 h i):cK old h' (A7 ad k)=cK old h (A7 ad k):=by
 obtain ⟨b,o,sp⟩:=ad
 cases sp with
 |none=>rfl
 |some p=>simp only[cK,A7,hh b rfl]
theorem Rd.mono (r:Rd old h f v l) {h':m0} (hh:∀ i,cL v=i+1→g9 h' i=g9 h i):Rd old h' f v l:=by
 rcases r.is with ⟨a,c,rfl,h1,h2⟩|h0
 case inr=>exact ⟨Or.inr h0⟩
 refine ⟨Or.inl ⟨a,c,rfl,h1,?_⟩⟩
 rcases h2 with h2|⟨ad,rfl,hb,h2⟩
 ·exact Or.inl h2
 ·exact Or.inr ⟨ad,rfl,fun i hi=>by rw[hh i hi];exact hb i hi,fun k hk=>by rw[VM k hh];exact h2 k hk⟩
theorem Rd.hx (r:Rd old h f v l) {n:Nat} {h':m0} (hx:HX n h h') (hb:cL v≤n):Rd old h' f v l:=r.mono fun i hi=>hx i (by omega)
theorem Rd.push (r:Rd old h f v l) {n:Nat} (bs:List w7) (hb:cL v≤n):Rd old (w6 h n bs) f v l:=r.mono fun i hi=>eJ _ _ _ _ (by omega)
theorem Rd.set (r:Rd old h f v l) {i:Nat} (b:w7) (hb:¬ cL v=i+1):Rd old (A1 h i b) f v l:=r.mono fun j hj=>gJ _ _ _ _ (by omega)
theorem Rd.del (r:Rd old h f v l) {i:Nat} (hb:¬ cL v=i+1):Rd old (G0 h i) f v l:=r.mono fun j hj=>cD _ _ _ (by omega)
theorem Rd.newb {b:w7} {i n c:Nat} (hg:g9 h i=some b) (hb:b.cells=l.map f) (hn:n=l.length) (hc:n≤y8 c):Rd old h f (.slice (some ⟨i,0,some 0⟩) n c) l:=by
 subst hn
 refine ⟨Or.inl ⟨_,c,rfl,hc,Or.inr ⟨_,rfl,fun j hj=>?_,fun k hk=>?_⟩⟩⟩
 ·simp only[tJ,Nat.add_right_cancel_iff] at hj;subst hj;exact ⟨b,hg⟩
 simp[cK,A7,hg,hb,z8,hk]
theorem Rd.nil:Rd old h f (.slice none 0 0) []:=⟨Or.inl ⟨none,0,rfl,by simp,Or.inl ⟨rfl,rfl⟩⟩⟩
theorem Rd.odd (k:FloatKind) (b n:Nat):Rd old h f (.complex k b n) []:=⟨Or.inr ⟨rfl,k,b,n,rfl⟩⟩
theorem KL {E:D9} {b:Nat}:∀ (n o:Nat) (l:List Value),l.length=n→(∀ k (hk:k<l.length),E.old b (o+k)=some l[k])→yM E b o n=some l
 |0,_,l,hl,_=>by
  have:l= []:=List.length_eq_zero_iff.1 hl
  subst this;rfl
 |n+1,o,[],hl,_=>by simp at hl
 |n+1,o,x::l,hl,h=>by
  have h0:=h 0 (by simp)
  simp only[Nat.add_zero,List.getElem_cons_zero] at h0
  have ih:=KL (E:=E) (b:=b) n (o+1) l (by simpa using hl) (fun k hk=>by have:=h (k+1) (by simpa using hk);simpa [Nat.add_assoc,Nat.add_comm 1 k] using this)
  simp[yM,h0,ih]
theorem X1 {α:Type}:∀ (l:List α) (n:Nat),n≤l.length→D2 l n=some (l.take n)
 |_,0,_=>by simp[D2]
 | [],n+1,h=>by simp at h
 |x::l,n+1,h=>by simp[D2,X1 l n (by simpa using h)]
theorem Rd.src (r:Rd old h f v l) (n:Nat) (hn:n≤l.length):bI1 old h 1 n v=some ((l.take n).map f):=by
 rcases r.is with ⟨a,c,rfl,_,h2⟩|⟨rfl,_,_,_,rfl⟩
 case inr=>
  have:n=0:=by simpa using hn
  subst this;rfl
 rcases h2 with ⟨rfl,rfl⟩|⟨ad,rfl,hb,h2⟩
 ·have:n=0:=by simpa using hn
  subst this;rfl
 ·obtain ⟨b,o,sp⟩:=ad
  cases sp with
  |none=>
   simp only[bI1,r9,G6,Nat.mul_one]
   refine KL n o _ (by simp;omega) (fun k hk=>?_)
   have hk':k<l.length:=by simp at hk;omega
   have:=h2 k hk'
   simp only[cK,A7] at this
   simp[this]
  |some p=>
   obtain rfl|⟨q,rfl⟩:p=0∨∃ q,p=q+1:=by
    cases p with
    |zero=>exact .inl rfl
    |succ q=>exact .inr ⟨q,rfl⟩
   case inr=>
    have hn0:n=0:=by
     rcases Nat.eq_zero_or_pos l.length with h0|h0
     ·omega
     ·have:=h2 0 h0
      simp[cK,A7] at this
    subst hn0
    rfl
   simp only[bI1,r9,G6,Nat.mul_one]
   obtain ⟨bl,hl⟩:=hb b rfl
   rw[hl]
   simp only[Option.bind_some]
   have g9:∀ k (hk:k<l.length),bl.cells[o+k]? =some (f l[k]):=fun k hk=>by
    have:=h2 k hk
    simp only[cK,A7,hl,Option.bind_some,z8] at this
    exact this
   by_cases h0:n=0
   ·subst h0;simp[D2]
   have hlen:o+n≤bl.cells.length:=by
    have:=g9 (n - 1) (by omega)
    have:=(List.getElem?_eq_some_iff.1 this).1
    omega
   rw[X1 _ _ (by simp;omega)]
   congr 1
   apply List.ext_getElem?
   intro k
   by_cases hk:k<n
   ·simp[hk,g9 k (by omega),List.getElem?_drop]
    rw[List.getElem?_eq_getElem (by omega)]
    rfl
   ·rw[List.getElem?_eq_none (by simp;omega),List.getElem?_eq_none (by simp;omega)]
end
theorem aJ1 {n0:Nat} {ord:List Nat}:∀ i,i<n0→A6 n0 ord i=i:=fun i hi=>by
 unfold A6;rw[if_pos (by rw[Nat.blt_eq];exact hi)]
theorem aD1 {n0 i:Nat} {h:m0} {v:Value} {b:w7} (hv:s7 n0 v= [i]) (hb:g9 h i=some b) (hc:z0 n0 b.cells= []):gc n0 h v=some (P9 (A6 n0 [i]) v,[b]):=by
 unfold gc
 rw[hv]
 have h1:cE n0 h 1000000 [i] []=some [i]:=by
  show cE n0 h (999999+1) [i] []=some [i]
  simp only[cE,m8,hb,Option.bind_some,hc,List.nil_append]
  simp
 simp only[pQ,h1,Option.bind_some,List.reverse_cons,List.reverse_nil,List.nil_append,bE,hb,Option.map_some]
 rw[jR (n0:=n0) (fun j hj=>aJ1 j hj) _ hc]
theorem gc_int (n0:Nat) (h:m0) (k:IntKind) (z:Int):gc n0 h (.int k z)=some (.int k z,[]):=rfl
theorem WP (n0:Nat) (l:List Value):s7 n0 (.tuple l.toArray)=z0 n0 l:=rfl
theorem AM (n0 i o p n c:Nat) (h:n0≤i):s7 n0 (.slice (some ⟨i,o,some p⟩) n c)= [i]:=by simp[s7,n8,h]
theorem pJ (n0:Nat) (v:Value) (l:List Value):z0 n0 (v::l)=s7 n0 v++z0 n0 l:=rfl
theorem XH (g:Nat→Nat) (l:List Value):P9 g (.tuple l.toArray)= .tuple (R7 g l).toArray:=rfl
theorem XG (g:Nat→Nat) (v:Value) (l:List Value):R7 g (v::l)=P9 g v::R7 g l:=rfl
theorem BQ (g:Nat→Nat) (i o p n c:Nat):P9 g (.slice (some ⟨i,o,some p⟩) n c)= .slice (some ⟨g i,o,some p⟩) n c:=rfl
theorem BP (n0 i:Nat) (h:n0≤i):A6 n0 [i] i=n0:=by
 unfold A6;rw[if_neg (by rw[Nat.blt_eq];omega)];simp[J8]
theorem aD2 {n0 i o p n c:Nat} {h:m0} {b:w7} (hi:n0≤i) (hb:g9 h i=some b) (hc:z0 n0 b.cells= []):
  gc n0 h (.slice (some ⟨i,o,some p⟩) n c)=some (.slice (some ⟨n0,o,some p⟩) n c,[b]):=by
 rw[aD1 (AM n0 i o p n c hi) hb hc,BQ,BP n0 i hi]
theorem ET {n0 i o p n c:Nat} {h:m0} {b:w7} {k:IntKind} {z:Int} (hi:n0≤i) (hb:g9 h i=some b) (hc:z0 n0 b.cells= []):
  gc n0 h (.tuple [.slice (some ⟨i,o,some p⟩) n c,.int k z].toArray)=some (.tuple [.slice (some ⟨n0,o,some p⟩) n c,.int k z].toArray,[b]):=by
 rw[aD1 (by rw[WP,pJ,AM n0 i o p n c hi];rfl) hb hc,XH,XG,BQ,BP n0 i hi]
 rfl
section
variable {old:Nat→Nat→Option Value} {r:Nat} {fns:FuncId→Option p5} {prims:FuncId→List Value→St→Option (Value × List w7)} {n:Nat} {f:FuncId} {xs:List Value} {s:St} {code:AC} {nt:Nat} {res:List (Nat × Option (Option Nat))}
end
theorem zH {v:Value} (h:B2 v=true):v.cells.toList= [v]:=by
 cases v<;>first|rfl|(simp[B2] at h)
def delO (h:m0):Value→m0
 | .slice (some ⟨i,_,some _⟩) _ c=>if c<t8 then h else G0 h i
 |_=>h
structure yR (lo:Nat) (s:St) (t:TypeId) (e:Nat) (v:Value) (n:Nat) (cs:List Value):Prop where
 is:(v= .slice none 0 0∧n=0∧cs= [])∨∃ i,lo≤i∧i<s.next∧s.prot≤i∧
  ((v= .slice (some ⟨i,0,some 0⟩) 0 0∧n=0∧cs= []∧∃ b,g9 s.heap i=some b)∨
   (v= .slice (some ⟨i,0,some 0⟩) n (t8+n)∧cs.length=n*e∧g9 s.heap i=some ⟨cs,e,true,t⟩))
section
variable {lo:Nat} {s:St} {t:TypeId} {e:Nat} {v:Value} {n:Nat} {cs:List Value}
theorem yR.nil:yR lo s t e (.slice none 0 0) 0 []:=⟨Or.inl ⟨rfl,rfl,rfl⟩⟩
theorem yR.bid (o:yR lo s t e v n cs):cL v≤s.next:=by
 rcases o.is with ⟨rfl,_⟩|⟨i,_,h,_,⟨rfl,_⟩|⟨rfl,_⟩⟩
 ·simp[cL,tJ]
 ·simp[cL,tJ];omega
 ·simp[cL,tJ];omega
theorem yR.to (o:yR lo s t e v n cs) {s':St} (hn:s.next≤s'.next) (hp:s'.prot=s.prot) (hh:∀ i,cL v=i+1→g9 s'.heap i=g9 s.heap i):yR lo s' t e v n cs:=by
 refine ⟨?_⟩
 rcases o.is with h|⟨i,h1,h2,h3,⟨rfl,h4,h5,h6⟩|⟨rfl,h4,h5⟩⟩
 ·exact Or.inl h
 ·exact Or.inr ⟨i,h1,by omega,by omega,Or.inl ⟨rfl,h4,h5,by rw[hh i rfl];exact h6⟩⟩
 ·exact Or.inr ⟨i,h1,by omega,by omega,Or.inr ⟨rfl,h4,by rw[hh i rfl];exact h5⟩⟩
theorem yR.push (o:yR lo s t e v n cs) (bs:List w7) {s':St} (hs:s'=⟨w6 s.heap s.next bs,s.next+bs.length,s.prot⟩):yR lo s' t e v n cs:=by
 subst hs
 exact o.to (by simp) rfl fun i hi=>eJ _ _ _ _ (by have:=o.bid;omega)
theorem yR.app {E:D9} (o:yR lo s t e v n cs) {y:Value} {m b:Nat} {new:List Value} (hy:lenA y=some m) (hm:1≤m) (hs:r9 E s.heap e m y=some new) (h1:new.all B2=true)
  (hr:n+m≤r5) (hrb:(n+m)*b≤r5):
  aQ1 E s t e b v y=some (.slice (some ⟨s.next,0,some 0⟩) (n+m) (t8+(n+m)),⟨w6 (delO s.heap v) s.next [⟨cs++new,e,true,t⟩],s.next+1,s.prot⟩):=by
 have hm0:Nat.beq m 0=false:=by rw[Bool.eq_false_iff];exact fun h=>by have:=j7.1 h;omega
 have hbig:r5<t8:=by decide
 rcases o.is with ⟨rfl,rfl,rfl⟩|⟨i,g1,g2,g3,⟨rfl,rfl,rfl,bl,g6⟩|⟨rfl,g4,g5⟩⟩
 ·have e1:(Nat.ble (0+m) r5 && Nat.ble ((0+m)*b) r5 && Nat.blt 0 t8 && Nat.blt 0 (0+m))=true:=by simp only[Bool.and_eq_true,Nat.ble_eq,Nat.blt_eq];omega
  have e2:r9 E s.heap e 0 (.slice none 0 0)=some []:=rfl
  simp only[aQ1,W6,hy,Option.bind_some,hm0,e1,hs,e2,Option.map_some,delO]
  rfl
 ·have e1:(Nat.ble (0+m) r5 && Nat.ble ((0+m)*b) r5 && Nat.blt 0 t8 && Nat.blt 0 (0+m))=true:=by simp only[Bool.and_eq_true,Nat.ble_eq,Nat.blt_eq];omega
  have e2:r9 E s.heap e 0 (.slice (some ⟨i,0,some 0⟩) 0 0)=some []:=by simp[r9,G6,g6,D2]
  simp only[aQ1,W6,hy,Option.bind_some,hm0,e1,hs,e2,Option.map_some,delO]
  rfl
 ·have e1:(Nat.ble (n+m) r5 && Nat.ble ((n+m)*b) r5 && Nat.blt (t8+n) t8 && Nat.blt (t8+n) (n+m))=false:=by
   have:Nat.blt (t8+n) t8=false:=by rw[Bool.eq_false_iff];intro h;rw[Nat.blt_eq] at h;omega
   simp[this]
  have e2:(Nat.ble (n+m) r5 && Nat.ble ((n+m)*b) r5)=true:=by simp only[Bool.and_eq_true,Nat.ble_eq];omega
  have e3:Nat.blt (t8+n) t8=false:=by rw[Bool.eq_false_iff];intro h;rw[Nat.blt_eq] at h;omega
  have e4:Nat.ble s.prot i=true:=by rw[Nat.ble_eq];exact g3
  have e5:(true && Nat.beq t t && Nat.beq e e && Nat.beq (0+n*e) cs.length && Nat.beq (t8+n) (t8+n))=true:=by simp[g4]
  have e6:¬ t8+n<t8:=by omega
  have e7:G6 E s.heap ⟨i,0,some 0⟩ 0=some []:=by simp[G6,g5,D2]
  simp only[aQ1,W6,fR,hy,Option.bind_some,hm0,e2,e3,e4,hs,h1,g5,e5,if_true,Bool.false_eq_true,if_false,delO,List.drop_zero,e6]
  simp only[St.push,List.length_singleton,Bool.true_and,Bool.false_and,Bool.false_eq_true,if_false]
theorem WN (h:m0) (v:Value) (j:Nat) (hj:¬ cL v=j+1):g9 (delO h v) j=g9 h j:=by
 unfold delO
 split
 ·rename_i i o p n c
  split
  ·rfl
  ·exact cD _ _ _ (by simp[cL,tJ] at hj;omega)
 ·rfl
theorem HX.delO {m:Nat} {h0 h:m0} (hx:HX m h0 h) {v:Value} (hv:cL v=0∨m<cL v):HX m h0 (delO h v):=fun j hj=>by
 rw[WN _ _ _ (by omega),hx j hj]
theorem yR.len (o:yR lo s t e v n cs):bN9 false v=some (.int .i64 n):=by
 rcases o.is with ⟨rfl,rfl,rfl⟩|⟨i,g1,g2,g3,⟨rfl,rfl,rfl,bl,g6⟩|⟨rfl,g4,g5⟩⟩<;>rfl
end
def newV (nx n:Nat):Value:=if n=0 then .slice none 0 0 else .slice (some ⟨nx,0,some 0⟩) n (t8+n)
def WU (t:TypeId) (e n:Nat) (cs:List Value):List w7:=if n=0 then [] else [⟨cs,e,true,t⟩]
theorem Rd.newV {α:Type} {old:Nat→Nat→Option Value} {f:α→Value} (h:m0) (nx:Nat) (t:TypeId) (l:List α):Rd old (w6 h nx (WU t 1 l.length (l.map f))) f (newV nx l.length) l:=by
 unfold Itp.newV WU
 by_cases h0:l.length=0
 ·have:l= []:=List.length_eq_zero_iff.1 h0
  subst this;exact Rd.nil
 ·rw[if_neg h0,if_neg h0]
  exact Rd.newb (yJ _ _ _ _ rfl) rfl rfl (by unfold y8;rw[if_neg (by rw[Nat.blt_eq];omega)];omega)
theorem yR.gc {n0:Nat} {s:St} {t:TypeId} {e:Nat} {v:Value} {n:Nat} {cs:List Value} (o:yR n0 s t e v n cs) (hn:n=0→v= .slice none 0 0) (hc:z0 n0 cs= []):
  gc n0 s.heap v=some (newV n0 n,WU t e n cs):=by
 unfold newV WU
 by_cases h0:n=0
 ·rw[if_pos h0,if_pos h0,hn h0];rfl
 ·rw[if_neg h0,if_neg h0]
  rcases o.is with ⟨rfl,h1,h2⟩|⟨i,g1,g2,g3,⟨rfl,h1,h2,bl,g6⟩|⟨rfl,g4,g5⟩⟩
  ·exact (h0 h1).elim
  ·exact (h0 h1).elim
  ·exact aD2 g1 g5 hc
theorem yR.gc_int {n0:Nat} {s:St} {t:TypeId} {e:Nat} {v:Value} {n:Nat} {cs:List Value} (o:yR n0 s t e v n cs) (hn:n=0→v= .slice none 0 0) (hc:z0 n0 cs= []) (k:IntKind) (z:Int):
  Itp.gc n0 s.heap (.tuple [v,.int k z].toArray)=some (.tuple [newV n0 n,.int k z].toArray,WU t e n cs):=by
 unfold newV WU
 by_cases h0:n=0
 ·rw[if_pos h0,if_pos h0,hn h0];rfl
 ·rw[if_neg h0,if_neg h0]
  rcases o.is with ⟨rfl,h1,h2⟩|⟨i,g1,g2,g3,⟨rfl,h1,h2,bl,g6⟩|⟨rfl,g4,g5⟩⟩
  ·exact (h0 h1).elim
  ·exact (h0 h1).elim
  ·exact ET g1 g5 hc
theorem Rd.one {α:Type} {old:Nat→Nat→Option Value} {h:m0} {f:α→Value} {v:Value} {l:List α} (r:Rd old h f v l):B2 v=true:=by
 rcases r.is with ⟨a,c,rfl,_⟩|⟨rfl,k,b,n,rfl⟩<;>rfl
theorem FU (v:Value):∀ n,rep [v] n=List.replicate n v
 |0=>rfl
 |n+1=>by simp[rep,FU v n,List.replicate_succ]
theorem M6 (h:m0) (i:Nat) (b:w7):g9 (A1 h i b) i=(g9 h i).map fun _=>b:=by
 induction h with
 |nil=>rfl
 |cons p r ih=>
  obtain ⟨k,u⟩:=p
  simp only[A1]
  by_cases hk:i=k
  ·rw[if_pos (j7.2 hk)];simp[g9,hk]
  ·rw[if_neg (by rw[j7];exact hk)]
   simp only[g9]
   rw[if_neg (by rw[j7];exact hk),if_neg (by rw[j7];exact hk),ih]
end Go.Itp
set_option linter.unusedVariables false
namespace Go.Itp
inductive D where
 |sc (x:Value)
 |sl (s n:Nat) (l:List D)
inductive V where
 |sc (x:Value)
 |sl (s n:Nat) (l:List D)
 |slk (s n c:Nat) (l:List D)
 |dp (l:List D) (o:Nat)
 |ref (o k n c:Nat)
 |gr (s o n:Nat)
 |ptr (o k:Nat)
 |agg (l:List V)
 |tup (l:List V)
 |fn (f:FuncId) (a b:List V)
 |ifc (t:TypeId) (v:V)
 |dead
  /-- what a range over a function hands out: its loop's record -/
 |tok (o:Nat)
inductive Obj where
 |box (t:TypeId) (e:Nat) (l:List V)
 |row (t:TypeId) (e:Nat) (g z:Bool) (l:List D)
 |gro (t:TypeId) (e:Nat) (z:Bool) (l:List D)
abbrev D0:=List (Nat × V)
abbrev D6:=List (Nat × Obj)
structure n4 where
 own:D6
 next:Nat
 ro:Nat
def D5:Value→Bool
 | .bool _=>true
 | .int _ _=>true
 | .string _=>true
 | .nilFunc=>true
 | .nilIface=>true
 | .pointer none=>true
 | .pointer (some a)=>a.spot.isNone
 | .slice none n c=>Nat.beq n 0 && Nat.beq c 0
 | .map none=>true
 | .func (.func _) ⟨a⟩ ⟨b⟩=>a.isEmpty && b.isEmpty
 | .iface _ v=>D5 v
 |_=>false
theorem T3 (n0:Nat):∀ (v:Value),D5 v=true→s7 n0 v= []
 | .pointer none,_=>rfl
 | .pointer (some ⟨b,o,none⟩),_=>rfl
 | .pointer (some ⟨b,o,some k⟩),h=>by simp[D5] at h
 | .slice none n c,_=>rfl
 | .slice (some a) n c,h=>by simp[D5] at h
 | .func f ⟨a⟩ ⟨b⟩,h=>by
  cases f with
  |func f=>
   simp[D5] at h
   obtain ⟨rfl,rfl⟩:=h
   simp[s7,z0]
  |_=>simp[D5] at h
 | .iface t v,h=>by simp only[D5] at h;simp only[s7];exact T3 n0 v h
 | .agg _,h=>by simp[D5] at h
 | .tuple _,h=>by simp[D5] at h
 | .bool _,_=>rfl
 | .int _ _,_=>rfl
 | .float _ _,_=>rfl
 | .complex _ _ _,h=>by simp[D5] at h
 | .string _,_=>rfl
 | .map _,_=>rfl
 | .chan _,h=>by simp[D5] at h
 | .nilFunc,_=>rfl
 | .nilIface,_=>rfl
theorem oA (v:Value) (h:D5 v=true):B2 v=true:=by
 cases v<;>first|rfl|(simp[D5] at h)
structure VW where
 ld:Addr→Option Value
 F:Nat→Prop
 μ:Nat→Option Nat
 nx:Nat
def VW.inF (w:VW) (a:Addr):Prop:=match a.spot with|none=>True|some _=>w.F a.block
def F8 (n c:Nat):Prop:=n≤y8 c
mutual
def A5 (w:VW):D→Value→Prop
 | .sc x,v=>v=x∧D5 x=true
 | .sl s n l,v=>(∃ a c,v= .slice (some a) n c∧w.inF a∧F8 n c∧x9 w l a∧(s=2→n ≠ 0))∨(s ≠ 0∧n=0∧l= []∧(v= .slice none 0 0∨s=1∧∃ k b e,v= .complex k b e))
def x9 (w:VW):List D→Addr→Prop
 | [],_=>True
 |d::r,a=>(∃ v,w.ld a=some v∧A5 w d v)∧x9 w r (A7 a 1)
end
def l6 (w:VW):List D→List Value→Prop
 | [],vs=>vs= []
 |d::r,vs=>∃ v vs',vs=v::vs'∧A5 w d v∧l6 w r vs'
mutual
def d7 (w:VW):V→Value→Prop
 | .sc x,v=>v=x∧D5 x=true
 | .sl s n l,v=>A5 w (.sl s n l) v
 | .slk s n c l,v=>c<t8∧n≤c∧((∃ a,v= .slice (some a) n c∧w.inF a∧x9 w l a)∨(s ≠ 0∧n=0∧c=0∧l= []∧v= .slice none 0 0))
 | .dp l o,v=>∃ a,v= .pointer (some (A7 a o))∧w.inF a∧x9 w l a
 | .ref o k n c,v=>o<w.nx∧F8 n c∧∃ b',v= .slice (some ⟨b',k,some 0⟩) n c∧∀ b,w.μ o=some b→b'=b
 | .gr s o n,v=>o<w.nx∧((n=0∧(v= .slice none 0 0∨s ≠ 2∧∃ a c,v= .slice (some a) 0 c∧w.inF a))∨(n ≠ 0∧∃ b',v= .slice (some ⟨b',0,some 0⟩) n (t8+n)∧∀ b,w.μ o=some b→b'=b))
 | .ptr o k,v=>o<w.nx∧∃ b',v= .pointer (some ⟨b',k,some 0⟩)∧∀ b,w.μ o=some b→b'=b
 | .agg l,v=>∃ vs,v= .agg ⟨vs⟩∧f9 w l vs
 | .tup l,v=>∃ vs,v= .tuple ⟨vs⟩∧f9 w l vs
 | .fn f a b,v=>∃ as bs,v= .func (.func f) ⟨as⟩ ⟨bs⟩∧f9 w a as∧f9 w b bs
 | .ifc t u,v=>∃ v',v= .iface t v'∧d7 w u v'
 | .dead,_=>True
 | .tok o,v=>o<w.nx∧∃ b',v= .chan (some b')∧∀ b,w.μ o=some b→b'=b
def f9 (w:VW):List V→List Value→Prop
 | [],vs=>vs= []
 |d::r,vs=>∃ v vs',vs=v::vs'∧d7 w d v∧f9 w r vs'
end
structure VW.le (w w':VW):Prop where
 ld:∀ a,w.inF a→w'.ld a=w.ld a
 F:∀ b,w.F b→w'.F b
 nx:w.nx≤w'.nx
 μ:∀ o b,o<w.nx→w'.μ o=some b→w.μ o=some b
theorem VW.le.inF {w w':VW} (h:VW.le w w') {a:Addr} (i:w.inF a):w'.inF a:=by
 unfold VW.inF at i ⊢
 split
 ·trivial
 ·rename_i hs
  rw[hs] at i
  exact h.F _ i
theorem jH {w:VW} {a:Addr} {n:Nat} (i:w.inF a):w.inF (A7 a n):=i
mutual
theorem A5.mono {w w':VW} (h:VW.le w w'):∀ {d:D} {v:Value},A5 w d v→A5 w' d v
 | .sc x,v,r=>by simp only[A5] at r ⊢;exact r
 | .sl s n l,v,r=>by
  simp only[A5] at r ⊢
  rcases r with ⟨a,c,e,i,k,r,q⟩|r
  ·exact .inl ⟨a,c,e,h.inF i,k,x9.mono h i r,q⟩
  ·exact .inr r
theorem x9.mono {w w':VW} (h:VW.le w w'):∀ {l:List D} {a:Addr},w.inF a→x9 w l a→x9 w' l a
 | [],a,_,_=>by simp only[x9]
 |d::r,a,i,q=>by
  simp only[x9] at q ⊢
  obtain ⟨⟨v,h1,h2⟩,h3⟩:=q
  exact ⟨⟨v,by rw[h.ld a i];exact h1,A5.mono h h2⟩,x9.mono h (jH i) h3⟩
end
theorem l6.mono {w w':VW} (h:VW.le w w'):∀ {l:List D} {vs:List Value},l6 w l vs→l6 w' l vs
 | [],vs,r=>r
 |d::r,vs,q=>by
  obtain ⟨v,vs',e,h1,h2⟩:=q
  exact ⟨v,vs',e,A5.mono h h1,l6.mono h h2⟩
mutual
theorem d7.mono {w w':VW} (h:VW.le w w'):∀ {d:V} {v:Value},d7 w d v→d7 w' d v
 | .sc x,v,r=>by simp only[d7] at r ⊢;exact r
 | .sl s n l,v,r=>by simp only[d7] at r ⊢;exact A5.mono h r
 | .slk s n c l,v,r=>by
  simp only[d7] at r ⊢
  refine ⟨r.1,r.2.1,r.2.2.imp ?_ id⟩
  rintro ⟨a,e,i,r⟩
  exact ⟨a,e,h.inF i,x9.mono h i r⟩
 | .dp l o,v,r=>by
  simp only[d7] at r ⊢
  obtain ⟨a,e,i,r⟩:=r
  exact ⟨a,e,h.inF i,x9.mono h i r⟩
 | .ref o k n c,v,r=>by
  simp only[d7] at r ⊢
  obtain ⟨h1,h2,b',e,r⟩:=r
  exact ⟨Nat.lt_of_lt_of_le h1 h.nx,h2,b',e,fun b hb=>r b (h.μ o b h1 hb)⟩
 | .gr s o n,v,r=>by
  simp only[d7] at r ⊢
  obtain ⟨h1,r⟩:=r
  refine ⟨Nat.lt_of_lt_of_le h1 h.nx,r.imp (And.imp id (Or.imp id (And.imp id ?_))) ?_⟩
  ·rintro ⟨a,c,e,i⟩
   exact ⟨a,c,e,h.inF i⟩
  ·rintro ⟨h2,b',e,r⟩
   exact ⟨h2,b',e,fun b hb=>r b (h.μ o b h1 hb)⟩
 | .ptr o k,v,r=>by
  simp only[d7] at r ⊢
  obtain ⟨h1,b',e,r⟩:=r
  exact ⟨Nat.lt_of_lt_of_le h1 h.nx,b',e,fun b hb=>r b (h.μ o b h1 hb)⟩
 | .agg l,v,r=>by
  simp only[d7] at r ⊢
  obtain ⟨vs,e,r⟩:=r
  exact ⟨vs,e,f9.mono h r⟩
 | .tup l,v,r=>by
  simp only[d7] at r ⊢
  obtain ⟨vs,e,r⟩:=r
  exact ⟨vs,e,f9.mono h r⟩
 | .fn f a b,v,r=>by
  simp only[d7] at r ⊢
  obtain ⟨vs,us,e,r,q⟩:=r
  exact ⟨vs,us,e,f9.mono h r,f9.mono h q⟩
 | .ifc t u,v,r=>by
  simp only[d7] at r ⊢
  obtain ⟨v',e,r⟩:=r
  exact ⟨v',e,d7.mono h r⟩
 | .dead,v,_=>by simp only[d7]
 | .tok o,v,r=>by
  simp only[d7] at r ⊢
  obtain ⟨h1,b',e,r⟩:=r
  exact ⟨Nat.lt_of_lt_of_le h1 h.nx,b',e,fun b hb=>r b (h.μ o b h1 hb)⟩
theorem f9.mono {w w':VW} (h:VW.le w w'):∀ {l:List V} {vs:List Value},f9 w l vs→f9 w' l vs
 | [],vs,r=>by simp only[f9] at r ⊢;exact r
 |d::r,vs,q=>by
  simp only[f9] at q ⊢
  obtain ⟨v,vs',e,h1,h2⟩:=q
  exact ⟨v,vs',e,d7.mono h h1,f9.mono h h2⟩
end
def i7 {α:Type}:List (Nat × α)→Nat→Option α
 | [],_=>none
 |(j,v)::r,i=>if Nat.beq i j then some v else i7 r i
def lC {α:Type}:List (Nat × α)→Nat→α→List (Nat × α)
 | [],i,v=> [(i,v)]
 |(j,u)::r,i,v=>if Nat.beq i j then (i,v)::r else if Nat.blt i j then (i,v)::(j,u)::r else (j,u)::lC r i v
def v9 {α:Type} (fr:List (Nat × α)) (d:Option Nat) (v:α):List (Nat × α):=match d with|some i=>lC fr i v|none=>fr
def B5 {α:Type}:List (Nat × α)→Nat→α→List (Nat × α)
 | [],_,_=> []
 |(j,u)::r,i,v=>if Nat.beq i j then (j,v)::r else (j,u)::B5 r i v
def J4 {α:Type} (i:Nat):List (Nat × α)→List (Nat × α)
 | []=> []
 |(j,u)::r=>if Nat.beq i j then J4 i r else (j,u)::J4 i r
def B9 {α:Type} (ks:List Nat):List (Nat × α)→List (Nat × α)
 | []=> []
 |(j,v)::r=>if m8 j ks then (j,v)::B9 ks r else B9 ks r
theorem m7 {α:Type} (j:Nat) (v:α) (r:List (Nat × α)) (i:Nat):i7 ((j,v)::r) i=if i=j then some v else i7 r i:=by
 simp only[i7]
 by_cases h:i=j
 ·rw[if_pos (j7.2 h),if_pos h]
 ·rw[if_neg (by rw[j7];exact h),if_neg h]
theorem iU {α:Type}:∀ (r:List (Nat × α)) (i j:Nat) (v:α),i7 (lC r i v) j=if j=i then some v else i7 r j
 | [],i,j,v=>by simp only[lC];rw[m7]
 |(k,u)::r,i,j,v=>by
  simp only[lC]
  split
  ·rename_i h
   have:=j7.1 h
   subst this
   rw[m7,m7]
   split<;>rfl
  ·rename_i h
   rw[j7] at h
   split
   ·rw[m7]
   ·rw[m7,iU r i j v,m7]
    by_cases hj:j=k
    ·subst hj;rw[if_pos rfl,if_neg (fun e=>h e.symm),if_pos rfl]
    ·rw[if_neg hj,if_neg hj]
theorem F6 {α:Type}:∀ (r:List (Nat × α)) (i j:Nat) (v c:α),i7 r i=some c→i7 (B5 r i v) j=if j=i then some v else i7 r j
 | [],i,j,v,c,h=>by cases h
 |(k,u)::r,i,j,v,c,h=>by
  rw[m7] at h
  simp only[B5]
  split
  ·rename_i hk
   have:=j7.1 hk
   subst this
   rw[m7,m7]
   split<;>rfl
  ·rename_i hk
   rw[j7] at hk
   rw[if_neg hk] at h
   rw[m7,F6 r i j v c h,m7]
   by_cases hj:j=k
   ·subst hj;rw[if_pos rfl,if_neg (fun e=>hk e.symm),if_pos rfl]
   ·rw[if_neg hj,if_neg hj]
theorem M2 {α:Type}:∀ (r:List (Nat × α)) (i j:Nat),i7 (J4 i r) j=if j=i then none else i7 r j
 | [],i,j=>by simp[J4,i7]
 |(k,u)::r,i,j=>by
  simp only[J4]
  split
  ·rename_i hk
   have:=j7.1 hk
   subst this
   rw[M2 r i j,m7]
   split<;>rfl
  ·rename_i hk
   rw[j7] at hk
   rw[m7,M2 r i j,m7]
   by_cases hj:j=k
   ·subst hj;rw[if_pos rfl,if_neg (fun e=>hk e.symm),if_pos rfl]
   ·rw[if_neg hj,if_neg hj]
theorem dS {α:Type} (ks:List Nat):∀ (r:List (Nat × α)) (j:Nat) (v:α),i7 (B9 ks r) j=some v→i7 r j=some v∧j ∈ ks
 | [],j,v,h=>by cases h
 |(k,u)::r,j,v,h=>by
  simp only[B9] at h
  split at h
  ·rename_i hk
   rw[m7] at h ⊢
   by_cases hj:j=k
   ·subst hj;rw[if_pos rfl] at h ⊢;exact ⟨h,(l8 _ _).1 hk⟩
   ·rw[if_neg hj] at h ⊢;exact dS ks r j v h
  ·rename_i hk
   have h2:=dS ks r j v h
   rw[m7]
   by_cases hj:j=k
   ·subst hj;exact absurd ((l8 _ _).2 h2.2) hk
   ·rw[if_neg hj];exact h2
def fN (w:VW):Obj→w7→Prop
 | .box t e l,b=>b.esz=e∧b.grow=false∧b.ty=t∧f9 w l b.cells
 | .row t e g _ l,b=>b.esz=e∧b.grow=g∧b.ty=t∧l6 w l b.cells
 | .gro t e z l,b=>b.esz=e∧b.grow=true∧b.ty=t∧l6 w l b.cells
theorem fN.mono {w w':VW} (h:VW.le w w'):∀ {o:Obj} {b:w7},fN w o b→fN w' o b
 | .box t e l,b,r=>⟨r.1,r.2.1,r.2.2.1,f9.mono h r.2.2.2⟩
 | .row t e g z l,b,r=>⟨r.1,r.2.1,r.2.2.1,l6.mono h r.2.2.2⟩
 | .gro t e z l,b,r=>⟨r.1,r.2.1,r.2.2.1,l6.mono h r.2.2.2⟩
def Obj.fz:Obj→Bool
 | .row _ _ _ z _=>z
 | .gro _ _ z _=>z
 |_=>false
def yL:D→Bool
 | .sc _=>true
 | .sl s n _=> !Nat.beq s 1|| !Nat.beq n 0
def P1 (l:List D):Bool:=l.all yL
def Obj.ok:Obj→Bool
 | .row _ _ _ _ l=>P1 l
 | .gro _ _ _ l=>P1 l
 |_=>true
def Obj.none:Obj→Bool
 | .gro _ _ _ []=>true
 |_=>false
structure C6 where
 E:D9
 n0:Nat
 h0:m0
 U:Nat→Prop
 w0:VW
 p0:Nat
abbrev s8 (C:C6) (st:n4) (s:St) (μ:Nat→Option Nat) (F:Nat→Prop):VW:=⟨n7 C.E s.heap,F,μ,st.next⟩
structure SR (C:C6) (st:n4) (s:St) (μ:Nat→Option Nat) (F:Nat→Prop):Prop where
 obj:∀ o ob,i7 st.own o=some ob→ob.none=false→∃ b blk,μ o=some b∧g9 s.heap b=some blk∧fN (s8 C st s μ F) ob blk
 wr:∀ o ob b,i7 st.own o=some ob→μ o=some b→ob.fz=false→¬ F b∧(st.ro≤o→s.prot≤b∧¬ C.U b)
 fz:∀ o ob b,i7 st.own o=some ob→μ o=some b→ob.fz=true→F b
 inj:∀ o o' b,μ o=some b→μ o'=some b→o=o'
 dom:∀ o b,μ o=some b→b<s.next∧o<st.next∧∃ ob,i7 st.own o=some ob∧ob.none=false
 lt:∀ b,F b→b<s.next∧∃ blk,g9 s.heap b=some blk
 cl:∀ b,F b→∃ blk,g9 s.heap b=some blk∧∀ n,∀ i ∈ z0 n blk.cells,F i
 un:∀ b,C.U b→b<C.n0∧g9 s.heap b=g9 C.h0 b
 n0:C.n0≤s.next
 own:∀ o ob,i7 st.own o=some ob→o<st.next∧ob.ok=true
 hb:∀ b blk,g9 s.heap b=some blk→b<s.next
 pr:s.prot≤s.next
 pb:∀ o b,μ o=some b→st.ro≤o→s.prot≤b
def FR (w:VW) (fr:D0) (frI:Fr):Prop:=∀ t v,i7 fr t=some v→∃ vI,E7 frI t=some vI∧d7 w v vI
theorem FR.mono {w w':VW} (h:VW.le w w') {fr:D0} {frI:Fr} (r:FR w fr frI):FR w' fr frI:=fun t v e=>by
 obtain ⟨vI,h1,h2⟩:=r t v e
 exact ⟨vI,h1,d7.mono h h2⟩
theorem uA:∀ (fr:Fr) (i j:Nat) (v:Value),E7 (pE fr i v) j=if j=i then some v else E7 fr j
 | [],i,j,v=>by rw[aB0,H5]
 |(k,u)::r,i,j,v=>by
  rw[OZ,H5]
  split
  ·rename_i h
   subst h
   rw[H5]
   split<;>rfl
  ·rename_i h
   split
   ·rw[H5,H5]
   ·rw[H5,uA r i j v]
    by_cases hj:j=k
    ·subst hj;rw[if_pos rfl,if_neg (fun e=>h e.symm),if_pos rfl]
    ·rw[if_neg hj,if_neg hj]
theorem FR.put {w:VW} {fr:D0} {frI:Fr} (r:FR w fr frI) {v:V} {vI:Value} (h:d7 w v vI) (d:Option Nat):FR w (v9 fr d v) (H6 frI d vI):=by
 cases d with
 |none=>exact r
 |some i=>
  intro t u e
  simp only[v9,H6] at e ⊢
  rw[iU] at e
  rw[uA]
  by_cases ht:t=i
  ·rw[if_pos ht] at e ⊢
   cases e;exact ⟨vI,rfl,h⟩
  ·rw[if_neg ht] at e ⊢
   exact r t u e
theorem I7 (ks:List Nat):∀ (fr:Fr) (j:Nat),j ∈ ks→E7 (q9 ks fr) j=E7 fr j
 | [],j,_=>rfl
 |(k,u)::r,j,h=>by
  rw[IS,H5]
  split
  ·rw[H5,I7 ks r j h]
  ·rename_i hk
   rw[I7 ks r j h]
   by_cases hj:j=k
   ·subst hj;exact absurd ((l8 _ _).2 h) hk
   ·rw[if_neg hj]
theorem FR.keep {w:VW} {fr:D0} {frI:Fr} (r:FR w fr frI) (ks:List Nat):FR w (B9 ks fr) (q9 ks frI):=fun t v e=>by
 obtain ⟨e1,e2⟩:=dS ks fr t v e
 obtain ⟨vI,h1,h2⟩:=r t v e1
 exact ⟨vI,by rw[I7 ks frI t e2];exact h1,h2⟩
end Go.Itp
namespace Go.Itp
set_option linter.unusedVariables false
set_option linter.constructorNameAsVariable false
def p7 (fr:D0):Operand→Option V
 | .tmp t=>i7 fr t
 | .const v=>if D5 v then some (.sc v) else none
 | .global g=>some (.sc (.pointer (some ⟨g,0,none⟩)))
 | .func f=>some (.sc (.func (.func f) #[] #[]))
def T7 (fr:D0):List Operand→Option (List V)
 | []=>some []
 |x::r=>(p7 fr x).bind fun v=>(T7 fr r).bind fun vs=>some (v::vs)
def T6 (fr:D0):Option Operand→Option (Option Value)
 |none=>some none
 |some x=>(p7 fr x).bind fun v=>match v with
   | .sc (.int k i)=>some (some (.int k i))
   |_=>none
def K5 (fr:D0):List (Nat × Nat × Operand)→Option (List (Nat × Nat × V))
 | []=>some []
 |(o,n,x)::r=>(p7 fr x).bind fun v=>(K5 fr r).bind fun vs=>some ((o,n,v)::vs)
def bD:V→Bool
 | .agg _=>false
 | .tup _=>false
 | .dead=>false
 | .tok _=>false
 |_=>true
def K4:V→Option (List V)
 | .agg l=>if l.all bD then some l else none
 | .tup _=>none
 | .dead=>none
 | .tok _=>none
 |v=>some [v]
def dv:D→V
 | .sc x=> .sc x
 | .sl s n l=> .sl s n l
def dvL:List D→List V
 | []=> []
 |d::r=>dv d::dvL r
def aL (H:D6):V→Option D
 | .sc x=>some (.sc x)
 | .sl s n l=>if yL (.sl s n l) then some (.sl s n l) else none
 | .slk s n _ l=>if Nat.beq s 0||Nat.beq s 3 then some (.sl s n l) else none
 | .ref o k n c=>match i7 H o with
   |some (.row _ e _ _ l)=>if k+n*e≤l.length then some (.sl 0 n ((l.drop k).take (n*e))) else none
   |_=>none
 | .gr s o n=>match i7 H o with
   |some (.gro _ e _ l)=>if l.length=n*e∧s ≠ 0∧s ≠ 1∧e ≠ 0 then some (.sl s n l) else none
   |_=>none
 |_=>none
def X5 (H:D6):List V→Option (List D)
 | []=>some []
 |v::r=>(aL H v).bind fun d=>(X5 H r).map (d::·)
def MS:V→Option D
 | .sc x=>some (.sc x)
 | .sl s n l=>if yL (.sl s n l) then some (.sl s n l) else none
 | .slk s n _ l=>if Nat.beq s 0||Nat.beq s 3 then some (.sl s n l) else none
 |_=>none
def CR:List V→Option (List D)
 | []=>some []
 |v::r=>(MS v).bind fun d=>(CR r).map (d::·)
def rZ:V→List Nat
 | .ref o _ _ _=> [o]
 | .gr _ o _=> [o]
 |_=> []
def jF:List V→List Nat
 | []=> []
 |v::r=>rZ v++jF r
def C8 {α:Type}:List α→Nat→List α→Option (List α)
 |cs,_,[]=>some cs
 | [],_,_::_=>none
 |_::cs,0,v::vs=>(C8 cs 0 vs).map (v::·)
 |c::cs,n+1,vs=>(C8 cs n vs).map (c::·)
def X7:List V→List (Nat × Nat × V)→Option (List V)
 |cs,[]=>some cs
 |cs,(o,n,v)::r=>(K4 v).bind fun l=>if Nat.beq l.length n && Nat.ble (o+n) cs.length then (C8 cs o l).bind fun cs=>X7 cs r else none
def fX:List D→List (Nat × Nat × V)→Option (List D)
 |cs,[]=>some cs
 |cs,(o,n,v)::r=>(K4 v).bind fun l=>(CR l).bind fun l=>if Nat.beq l.length n && Nat.ble (o+n) cs.length then (C8 cs o l).bind fun cs=>fX cs r else none
def YL (z:List Value):List V:=z.map .sc
def lU (z:List Value):List D:=z.map .sc
def B4 (l:List D) (k:Nat):Option Nat→Option V
 |none=>(B7 l k).map dv
 |some n=>if Nat.beq n 0 then none else (D2 (l.drop k) n).map fun l=> .agg (dvL l)
def tK (l:List V) (k:Nat):Option Nat→Option V
 |none=>B7 l k
 |some n=>(D2 (l.drop k) n).map .agg
def bP (old:Nat→Nat→Option Value) (H:D6) (g:Option Nat):V→Option V
 | .ptr o k=>match i7 H o with
   |some (.box _ _ l)=>tK l k g
   |some (.row _ _ _ _ l)=>B4 l k g
   |some (.gro _ _ _ l)=>B4 l k g
   |none=>none
 | .dp l k=>B4 l k g
 | .sc (.pointer (some a))=>match g with
   |none=>(old a.block a.off).bind fun v=>if D5 v then some (.sc v) else none
   |some _=>none
 |_=>none
def pX (n c:Nat) (lo hi mx:Option Value):Option (Nat × Nat × Nat × Bool):=
 match mx with
 |none=>
  (v7 hi n (y8 c)).bind fun h=>(v7 lo 0 h).bind fun l=>
   if Nat.blt c t8 then some (l,h,c - l,Nat.beq c l)
   else if Nat.blt l (c - t8) then some (l,h,c - l,false)
   else if Nat.beq l 0 then some (0,h,c,true) else none
 |some m=>
  (v7 (some m) 0 (y8 c)).bind fun m=>if Nat.blt m t8 && hi.isSome then
   (v7 hi n m).bind fun h=>(v7 lo 0 h).bind fun l=>some (l,h,m - l,Nat.beq m l)
   else none
def pY (n:Nat) (lo hi:Option Value):Option (Nat × Nat):=(v7 hi n n).bind fun h=>(v7 lo 0 h).bind fun l=>some (l,h)
def partD (l:List D) (a b:Nat):List D:=(l.drop a).take (b - a)
def aC (e:Nat) (lo hi mx:Option Value):V→Option V
 | .ref o k n c=>(pX n c lo hi mx).map fun r=> .ref o (if r.2.2.2 then k else k+r.1*e) (r.2.1 - r.1) r.2.2.1
 | .gr s o n=>if Nat.beq n 0 then none else (pX n (t8+n) lo hi mx).map fun r=> .ref o (if r.2.2.2 then 0 else r.1*e) (r.2.1 - r.1) r.2.2.1
 | .sl s n l=>if yL (.sl s n l) then (match mx with
   |none=>(pY n lo hi).map fun r=> .sl (if Nat.beq s 0 then 0 else 3) (r.2 - r.1) (partD l (r.1*e) (r.2*e))
   |some m=>(v7 (some m) 0 n).bind fun m=>if Nat.blt m t8 && hi.isSome then
     (v7 hi n m).bind fun h=>(v7 lo 0 h).bind fun l'=>some (.slk (if Nat.beq s 0 then 0 else 3) (h - l') (m - l') (partD l (l'*e) (h*e))) else none) else none
 | .slk s n c l=>match mx with
   |none=>(pY n lo hi).map fun r=> .slk s (r.2 - r.1) (c - r.1) (partD l (r.1*e) (r.2*e))
   |some _=>none
 | .sc (.slice none _ _)=>match mx with
   |none=>(pY 0 lo hi).map fun _=> .sc (.slice none 0 0)
   |some m=>(v7 (some m) 0 0).bind fun _=>if hi.isSome then (pY 0 lo hi).map fun _=> .sc (.slice none 0 0) else none
 |_=>none
def D7 (k:Nat):V→Option Bool
 | .sc v=>pL k v
 | .sl s n _=>if Nat.beq k 1 then (if Nat.beq s 0 then some false else if Nat.beq s 2 then some (Nat.beq n 0) else if Nat.beq n 0 then none else some false) else none
 | .slk s n _ _=>if Nat.beq k 1 then (if Nat.beq s 0 then some false else if Nat.beq n 0 then none else some false) else none
 | .ref _ _ _ _=>if Nat.beq k 1 then some false else none
 | .gr s _ n=>if Nat.beq k 1 then (if Nat.beq s 2 then some (Nat.beq n 0) else if Nat.beq n 0 then none else some false) else none
 | .ptr _ _=>if Nat.beq k 0 then some false else none
 | .dp _ _=>if Nat.beq k 0 then some false else none
 | .fn _ _ _=>if Nat.beq k 3 then some false else none
 |_=>none
def U6:V→Option Nat
 | .sl _ n _=>some n
 | .slk _ n _ _=>some n
 | .ref _ _ n _=>some n
 | .gr _ _ n=>some n
 | .sc (.slice none _ _)=>some 0
 |_=>none
def K7 (H:D6) (e m:Nat):V→Option (List D × List Nat)
 | .sl _ n l=>if l.length=n*e∧m≤n then some (l.take (m*e),[]) else none
 | .slk _ n _ l=>if l.length=n*e∧m≤n then some (l.take (m*e),[]) else none
 | .ref o k n _=>match i7 H o with
   |some (.row _ _ _ _ l)=>if k+m*e≤l.length then some ((l.drop k).take (m*e),[]) else none
   |some (.gro _ _ _ l)=>if k+m*e≤l.length∧m ≠ 0∧e ≠ 0 then some ((l.drop k).take (m*e),[]) else none
   |some (.box _ _ l)=>if k+m*e≤l.length then (X5 H ((l.drop k).take (m*e))).map fun ds=>(ds,jF ((l.drop k).take (m*e))) else none
   |_=>none
 | .gr _ o n=>match i7 H o with
   |some (.gro _ _ _ l)=>if l.length=n*e∧m≤n∧e ≠ 0 then some (l.take (m*e),[]) else none
   |_=>none
 | .sc (.slice none _ _)=>if Nat.beq m 0 then some ([],[]) else none
 | .sc (.string s)=>if Nat.beq e 1 && Nat.ble m s.size then some ((s.data.toList.take m).map fun b=> .sc (.int .u8 b.toNat),[]) else none
 |_=>none
def R6:V→Option Nat
 | .sc (.string s)=>some s.size
 |v=>U6 v
def C0:List D→Option (List UInt8)
 | []=>some []
 | .sc (.int .u8 n)::r=>(C0 r).map (UInt8.ofNat n.toNat::·)
 |_::_=>none
def okV:V→Bool
 | .sl s n l=>yL (.sl s n l)
 |_=>true
abbrev VO:=Option (V × Option Obj × List Nat)
def vp (v:Option V):VO:=v.map fun v=>(v,none,[])
def kW (H:D6) (nx:Nat) (t:TypeId) (e b:Nat) (x y:V):VO:=
 (R6 y).bind fun m=>(K7 H e m y).bind fun new=>
  if Nat.beq m 0 then (match x with
   | .sl s n l=>if yL (.sl s n l) then some (.sl s n l,none,[]) else none
   | .slk s n c l=>some (.slk s n c l,none,[])
   | .ref o k n c=>some (.ref o k n c,none,[])
   | .sc (.slice none _ _)=>some (.sc (.slice none 0 0),none,[])
   |_=>none)
  else if P1 new.1 && !Nat.beq e 0 then (match x with
   | .sc (.slice none _ _)=>if Nat.ble m r5 && Nat.ble (m*b) r5 then some (.gr 2 nx m,some (.gro t e false new.1),new.2) else none
   | .slk s n c l=>if l.length=n*e∧Nat.blt c (n+m) && P1 l && Nat.ble (n+m) r5 && Nat.ble ((n+m)*b) r5 then some (.gr 2 nx (n+m),some (.gro t e false (l++new.1)),new.2) else none
   | .ref o k n c=>if Nat.blt c t8 && Nat.blt c (n+m) && Nat.ble (n+m) r5 && Nat.ble ((n+m)*b) r5 then
     (K7 H e n (.ref o k n c)).bind fun cs=>if P1 cs.1 then some (.gr 2 nx (n+m),some (.gro t e false (cs.1++new.1)),cs.2++new.2) else none else none
   |_=>none) else none
def lY (nx:Nat) (t:TypeId) (e b:Nat) (z:List Value):V→V→VO
 |x,.sc (.int .i64 n)=>
  if n=0 then (match x with
   | .sl s n l=>if yL (.sl s n l) then some (.sl s n l,none,[]) else none
   | .slk s n c l=>some (.slk s n c l,none,[])
   | .ref o k n c=>some (.ref o k n c,none,[])
   | .sc (.slice none _ _)=>some (.sc (.slice none 0 0),none,[])
   |_=>none)
  else if 0<n∧n≤r5∧z.all D5=true∧z ≠ [] then (match x with
   | .sc (.slice none _ _)=>if Nat.ble (n.toNat*b) r5 then some (.gr 2 nx n.toNat,some (.gro t e false (lU (rep z n.toNat))),[]) else none
   | .slk _ k c l=>if l.length=k*e∧Nat.blt c (k+n.toNat) && P1 l && Nat.ble (k+n.toNat) r5 && Nat.ble ((k+n.toNat)*b) r5 then some (.gr 2 nx (k+n.toNat),some (.gro t e false (l++lU (rep z n.toNat))),[]) else none
   |_=>none)
  else none
 |_,_=>none
def W0 (c:Nat):Option V→Option V→Option Bool
 |some (.sc a),some (.sc b)=>pD c a b
 |_,_=>none
def DO:Option Bool→Option Bool→Option Bool
 |some true,q=>q
 |some false,_=>some false
 |none,_=>none
def Q1:List (Nat × Nat)→List V→List V→Option Bool
 | [],_,_=>some true
 |(o,c)::r,xs,ys=>DO (W0 c (B7 xs o) (B7 ys o)) (Q1 r xs ys)
def lI (neg:Bool) (ps:List (Nat × Nat)):V→V→Option V
 | .agg xs,.agg ys=>(Q1 ps xs ys).map fun r=> .sc (.bool (if neg then !r else r))
 |_,_=>none
def i6 (old:Nat→Nat→Option Value) (fr:D0) (H:D6) (nx:Nat):K8→VO
 | .mov x=>vp (p7 fr x)
 | .pick c a b=>(p7 fr c).bind fun c=>match c with| .sc (.bool t)=>vp (p7 fr (if t then a else b))|_=>none
 | .alloc t z=>if (S9 z).all D5 then some (.ptr nx 0,some (.box t 1 (YL (S9 z))),[]) else none
 | .box t x=>(p7 fr x).bind fun v=>(K4 v).bind fun cs=>some (.ptr nx 0,some (.box t 1 cs),[])
 | .build z ps=>if z.all D5 then (K5 fr ps).bind fun ps=>vp ((X7 (YL z) ps).map .agg) else none
 | .mkRow t e n z ps=>if (rep z n).all D5 && Nat.blt n t8 then (K5 fr ps).bind fun ps=>(match fX (lU (rep z n)) ps with
   |some cs=>some (.ref nx 0 n n,some (.row t e false false cs),[])
   |none=>(X7 (YL (rep z n)) ps).bind fun cs=>some (.ref nx 0 n n,some (.box t e cs),[])) else none
 | .load g a=>(p7 fr a).bind fun a=>vp (bP old H g a)
 | .nilChk x=>(p7 fr x).bind fun v=>match v with
   | .ptr o k=>some (.ptr o k,none,[])
   | .dp l o=>some (.dp l o,none,[])
   | .fn f a b=>some (.fn f a b,none,[])
   | .ifc t v=>some (.ifc t v,none,[])
   | .sc (.iface t v)=>some (.sc (.iface t v),none,[])
   | .sc (.func (.func f) a b)=>some (.sc (.func (.func f) a b),none,[])
   | .sc (.pointer (some a))=>some (.sc (.pointer (some a)),none,[])
   |_=>none
 | .bin op x y=>(p7 fr x).bind fun a=>(p7 fr y).bind fun b=>match a,b with
   | .sc a,.sc b=>vp ((I6 op a b).map .sc)
   |_,_=>none
 | .eqB neg x y=>(p7 fr x).bind fun a=>(p7 fr y).bind fun b=>match a,b with
   | .sc (.bool a),.sc (.bool b)=>some (.sc (.bool (if neg then !(a==b) else a==b)),none,[])
   |_,_=>none
 | .eqNil k neg x y=>(p7 fr x).bind fun a=>(p7 fr y).bind fun b=>(D7 k a).bind fun p=>(D7 k b).bind fun q=>if p||q then some (.sc (.bool (if neg then !(p && q) else p && q)),none,[]) else none
 | .un op x=>(p7 fr x).bind fun v=>match v with
   | .sc v=>vp ((unA op v).map .sc)
   |_=>none
 | .convI k x=>(p7 fr x).bind fun v=>match v with
   | .sc (.int _ n)=>some (.sc (.int k (k.wrap n)),none,[])
   |_=>none
 | .convS x=>(p7 fr x).bind fun v=>match v with
   | .sc (.string s)=>some (.sc (.string s),none,[])
   |_=>none
 | .b2s x=>(p7 fr x).bind fun v=>if okV v then (U6 v).bind fun n=>(K7 H 1 n v).bind fun l=>if !l.2.isEmpty then none else (C0 l.1).bind fun bs=>some (.sc (.string ⟨bs.toArray⟩),none,[]) else none
 | .mkSlice t e b z l c=>(p7 fr l).bind fun l=>(p7 fr c).bind fun c=>match l,c with
   | .sc (.int _ l),.sc (.int _ c)=>if 0≤l∧l≤c∧c*b≤r5∧c≤r5∧(rep z c.toNat).all D5=true then some (.ref nx 0 l.toNat c.toNat,some (.row t e false false (lU (rep z c.toNat))),[]) else none
   |_,_=>none
 | .slcS x lo hi=>(p7 fr x).bind fun x=>(T6 fr lo).bind fun lo=>(T6 fr hi).bind fun hi=>match x with
   | .sc (.string t)=>(v7 hi t.size t.size).bind fun h=>(v7 lo 0 h).bind fun l=>some (.sc (.string (t.extract l h)),none,[])
   |_=>none
 | .slc e x lo hi mx=>(p7 fr x).bind fun x=>(T6 fr lo).bind fun lo=>(T6 fr hi).bind fun hi=>(T6 fr mx).bind fun mx=>vp (aC e lo hi mx x)
 | .slcA n e x lo hi=>(p7 fr x).bind fun x=>(T6 fr lo).bind fun lo=>(T6 fr hi).bind fun hi=>match x with
   | .ptr o k=>if Nat.blt n t8 then vp (aC e lo hi none (.ref o k n n)) else none
   |_=>none
 | .fldA o x=>(p7 fr x).bind fun x=>match x with
   | .ptr i k=>some (.ptr i (k+o),none,[])
   | .dp l k=>some (.dp l (k+o),none,[])
   | .sc (.pointer (some a))=>some (.sc (.pointer (some (A7 a o))),none,[])
   |_=>none
 | .fldV o n x=>(p7 fr x).bind fun x=>match x with
   | .agg cs=>match n with
     |none=>vp (B7 cs o)
     |some n=>vp ((D2 (cs.drop o) n).map .agg)
   |_=>none
 | .idxS e x i=>(p7 fr x).bind fun x=>(p7 fr i).bind fun i=>match i with
   | .sc i=>match x with
     | .ref o k n _=>(z6 i n).bind fun i=>some (.ptr o (k+i*e),none,[])
     | .gr _ o n=>(z6 i n).bind fun i=>some (.ptr o (i*e),none,[])
     | .sl _ n l=>(z6 i n).bind fun i=>some (.dp l (i*e),none,[])
     | .slk _ n _ l=>(z6 i n).bind fun i=>some (.dp l (i*e),none,[])
     |_=>none
   |_=>none
 | .idxA n e x i=>(p7 fr x).bind fun x=>(p7 fr i).bind fun i=>match i with
   | .sc i=>match x with
     | .ptr o k=>(z6 i n).bind fun i=>some (.ptr o (k+i*e),none,[])
     | .dp l k=>(z6 i n).bind fun i=>some (.dp l (k+i*e),none,[])
     | .sc (.pointer (some a))=>(z6 i n).bind fun i=>some (.sc (.pointer (some (A7 a (i*e)))),none,[])
     |_=>none
   |_=>none
 | .idxStr x i=>(p7 fr x).bind fun x=>(p7 fr i).bind fun i=>match x,i with
   | .sc (.string t),.sc i=>(z6 i t.size).bind fun i=>(B7 t.data.toList i).bind fun b=>some (.sc (.int .u8 b.toNat),none,[])
   |_,_=>none
 | .idxV n e g x i=>(p7 fr x).bind fun x=>(p7 fr i).bind fun i=>match x,i with
   | .agg cs,.sc i=>(z6 i n).bind fun i=>match g with
     |none=>vp (B7 cs (i*e))
     |some m=>vp ((D2 (cs.drop (i*e)) m).map .agg)
   |_,_=>none
 | .ext x i=>(p7 fr x).bind fun x=>match x with
   | .tup vs=>vp (B7 vs i)
   |_=>none
 | .mkFn f a b=>(T7 fr a).bind fun a=>(T7 fr b).bind fun b=>some (.fn f a b,none,[])
 | .mkIf t x=>(p7 fr x).bind fun v=>match v with
   | .sc v=>some (.sc (.iface t v),none,[])
   |v=>some (.ifc t v,none,[])
 | .len t x=>(p7 fr x).bind fun x=>if t then (match x with| .sc (.string b)=>some (.sc (.int .i64 b.size),none,[])|_=>none)
   else (U6 x).bind fun n=>some (.sc (.int .i64 n),none,[])
 | .mm g x y=>(p7 fr x).bind fun x=>(p7 fr y).bind fun y=>match x,y with
   | .sc (.int k a),.sc (.int _ b)=>some (.sc (.int k (if g then (if b>a then b else a) else if b<a then b else a)),none,[])
   |_,_=>none
 | .app t e b x y=>(p7 fr x).bind fun x=>(p7 fr y).bind fun y=>kW H nx t e b x y
 | .eqIf neg lit ts x y=>(p7 fr x).bind fun a=>(p7 fr y).bind fun b=>match a,b with
   | .sc a,.sc b=>(tY lit ts a b).bind fun r=>some (.sc (.bool (if neg then !r else r)),none,[])
   | .ifc _ _,.sc .nilIface=>some (.sc (.bool neg),none,[])
   |_,_=>none
 | .eqAgg neg ps x y=>(p7 fr x).bind fun a=>(p7 fr y).bind fun b=>(lI neg ps a b).map fun r=>(r,none,[])
 | .eqPtr neg x y=>(p7 fr x).bind fun a=>(p7 fr y).bind fun b=>match a,b with
   | .sc a,.sc b=>(fY a b).bind fun r=>some (.sc (.bool (if neg then !r else r)),none,[])
   | .sc (.pointer none),.ptr _ _=>some (.sc (.bool neg),none,[])
   | .ptr _ _,.sc (.pointer none)=>some (.sc (.bool neg),none,[])
   | .ptr o k,.ptr o' k'=>if o=o'∧(i7 H o).isSome then (match i7 H o with|some (.gro _ _ _ _)=>none|_=>some (.sc (.bool (if neg then !(Nat.beq k k') else Nat.beq k k')),none,[])) else none
   |_,_=>none
 | .appMk t e b z x y=>(p7 fr x).bind fun x=>(p7 fr y).bind fun y=>lY nx t e b z x y
 | .s2b t x=>(p7 fr x).bind fun v=>match v with
   | .sc (.string b)=>if Nat.ble b.size r5 then some (.ref nx 0 b.size (t8+b.size),some (.row t 1 true false (b.data.toList.map fun b=> .sc (.int .u8 b.toNat))),[]) else none
   |_=>none
 | .rangeS x=>(p7 fr x).bind fun v=>match v with
   | .sc (.string b)=>if Nat.ble b.size r5 then some (.ptr nx 0,some (.row (pM b 0) 0 false false []),[]) else none
   |_=>none
 | .cap x=>(p7 fr x).bind fun v=>match v with
   | .ref _ _ _ c=>if Nat.blt c t8 then some (.sc (.int .i64 c),none,[]) else none
   | .slk _ _ c _=>some (.sc (.int .i64 c),none,[])
   | .sc (.slice none _ _)=>some (.sc (.int .i64 0),none,[])
   |_=>none
 | .toUns x=>(p7 fr x).bind fun v=>match v with
   | .sc (.pointer none)=>some (.sc (.pointer none),none,[])
   | .ptr o k=>(match i7 H o with|some (.box _ _ l)=>if Nat.blt k l.length then some (.ptr o k,none,[]) else none|_=>none)
   |_=>none
 | .fromUns t n x=>(p7 fr x).bind fun v=>match v with
   | .sc (.pointer none)=>some (.sc (.pointer none),none,[])
   | .ptr o k=>(match i7 H o with|some (.box t' _ l)=>if Nat.beq t' t && Nat.beq k 0 && Nat.ble n l.length && Nat.blt 0 n then some (.ptr o k,none,[]) else none|_=>none)
   |_=>none
 | .sdata x=>(p7 fr x).bind fun v=>match v with
   | .sc (.slice none _ _)=>some (.sc (.pointer none),none,[])
   | .ref o k _ c=>if Nat.beq c 0||Nat.beq c t8 then none else some (.ptr o k,none,[])
   | .gr _ o n=>if Nat.beq n 0 then none else some (.ptr o 0,none,[])
   |_=>none
 |_=>none
def Obj.froz:Obj→Obj
 | .row t e g _ l=> .row t e g true l
 | .gro t e _ l=> .gro t e true l
 |o=>o
def D1 (fz:List Nat):D6→D6
 | []=> []
 |(j,o)::r=>(j,if m8 j fz then o.froz else o)::D1 fz r
def n4.push (st:n4) (ob:Option Obj) (fz:List Nat):n4:=
 match ob with
 |none=>⟨D1 fz st.own,st.next,st.ro⟩
 |some o=>⟨(st.next,o)::D1 fz st.own,st.next+1,st.ro⟩
def B0 (ro:Nat) (H:D6):List Nat→Bool
 | []=>true
 |o::r=>Nat.ble ro o && (match i7 H o with|some (.row _ _ _ _ _)=>true|some (.gro _ _ _ _)=>true|_=>false) && B0 ro H r
def GM (st:n4) (n:Nat) (a v:V):Option n4:=
 (K4 v).bind fun cs=>if Nat.beq cs.length n then (match a with
  | .ptr o k=>if !Nat.ble st.ro o then none else match i7 st.own o with
    |some (.box t e l)=>if cs.all bD then (C8 l k cs).map fun l=>⟨B5 st.own o (.box t e l),st.next,st.ro⟩ else none
    |some (.row t e g z l)=>if z||m8 o (jF cs)|| !B0 st.ro st.own (jF cs) then none else (X5 st.own cs).bind fun ds=>(C8 l k ds).map fun l=>⟨B5 (D1 (jF cs) st.own) o (.row t e g false l),st.next,st.ro⟩
    |some (.gro t e z l)=>if z||m8 o (jF cs)||cs.isEmpty|| !B0 st.ro st.own (jF cs) then none else (X5 st.own cs).bind fun ds=>(C8 l k ds).map fun l=>⟨B5 (D1 (jF cs) st.own) o (.gro t e false l),st.next,st.ro⟩
    |none=>none
  |_=>none) else none
def rU (st:n4) (t:TypeId) (e b:Nat) (x y:V):Option (V × n4):=
 (R6 y).bind fun m=>(K7 st.own e m y).bind fun new=>if P1 new.1 && !Nat.beq e 0 && B0 st.ro st.own new.2 then (match x with
  | .gr s o n=>match i7 st.own o with
    |some (.gro t' e' z l)=>if Nat.ble st.ro o && !z && (Nat.beq s 2|| !Nat.beq n 0) && Nat.beq t' t && Nat.beq e' e && Nat.beq l.length (n*e) && Nat.ble (n+m) r5 && Nat.ble ((n+m)*b) r5 && !m8 o new.2 then
      some (.gr 2 st.next (n+m),⟨(st.next,.gro t e false (l++new.1))::D1 new.2 (J4 o st.own),st.next+1,st.ro⟩) else none
    |_=>none
  | .ref o k n c=>match i7 st.own o with
    |some (.row t' e' g z l)=>if !Nat.ble st.ro o||z||Nat.beq m 0|| !Nat.ble (n+m) r5|| !Nat.ble ((n+m)*b) r5 then none
      else if Nat.blt c t8 then (if Nat.ble (n+m) c && !m8 o new.2 then (C8 l (k+n*e) new.1).map fun l=>(.ref o k (n+m) c,⟨B5 (D1 new.2 st.own) o (.row t' e' g false l),st.next,st.ro⟩) else none)
      else if g && Nat.beq t' t && Nat.beq e' e && Nat.beq (k+n*e) l.length && Nat.beq c (t8+n) && !m8 o new.2 then
       some (.gr 2 st.next (n+m),⟨(st.next,.gro t e false (l.drop k++new.1))::D1 new.2 (J4 o st.own),st.next+1,st.ro⟩)
      else if Nat.ble (n+m) (c - t8) && !m8 o new.2 && !(g && Nat.beq t' t && Nat.beq e' e && Nat.beq (k+n*e) l.length && Nat.beq c (t8+n)) then (C8 l (k+n*e) new.1).map fun l=>(.ref o k (n+m) c,⟨B5 (D1 new.2 st.own) o (.row t' e' g false l),st.next,st.ro⟩)
      else none
    |_=>none
  |_=>none) else none
def UT (st:n4) (e:Nat) (d x:V):Option (V × n4):=
 (U6 d).bind fun n=>(R6 x).bind fun m=>(K7 st.own e (Nat.min m n) x).bind fun cs=>if P1 cs.1 && cs.2.isEmpty then (match d with
  | .ref o k _ _=>match i7 st.own o with
    |some (.row t e' g z l)=>if !Nat.ble st.ro o||z then none else (C8 l k cs.1).map fun l=>(.sc (.int .i64 (Nat.min m n)),⟨B5 st.own o (.row t e' g false l),st.next,st.ro⟩)
    |_=>none
  | .gr _ o _=>match i7 st.own o with
    |some (.gro t e' z l)=>if !Nat.ble st.ro o||z||Nat.beq n 0||Nat.beq e 0|| !Nat.beq l.length (n*e) then none else (C8 l 0 cs.1).map fun l=>(.sc (.int .i64 (Nat.min m n)),⟨B5 st.own o (.gro t e' false l),st.next,st.ro⟩)
    |_=>none
  | .sc (.slice none _ _)=>some (.sc (.int .i64 (Nat.min m n)),st)
  |_=>none) else none
def VD (st:n4) (t:TypeId) (p n:V):Option (V × n4):=
 match p,n with
 | .sc (.pointer none),.sc (.int .i64 n)=>if n=0 then some (.sc (.string .empty),st) else none
 | .ptr o k,.sc (.int .i64 n)=>if 0<n∧n≤r5∧Nat.ble st.ro o=true then (match i7 st.own o with
   |some (.gro t' _ z l)=>if Nat.beq t' t && !z then (D2 (l.drop k) n.toNat).bind fun cs=>(C0 cs).map fun bs=>(.sc (.string ⟨bs.toArray⟩),⟨J4 o st.own,st.next,st.ro⟩) else none
   |some (.row t' _ _ z l)=>if Nat.beq t' t && !z then (D2 (l.drop k) n.toNat).bind fun cs=>(C0 cs).map fun bs=>(.sc (.string ⟨bs.toArray⟩),⟨J4 o st.own,st.next,st.ro⟩) else none
   |_=>none) else none
 |_,_=>none
def JX:List D→Option (List Int)
 | []=>some []
 | .sc (.int .i64 z)::r=>(JX r).map (z::·)
 |_=>none
def bC8:Nat→Nat→List Int→Nat→V
 |0,_,_,_=> .tup []
 |_+1,o,zs,c=> .ref o 0 (cpt zs).length c
def bJ0 (st:n4) (k:Nat):V→Option (V × n4)
 | .gr s o n=>if Nat.beq n 0 then some (if Nat.beq k 0 then .tup [] else .gr s o n,st) else match i7 st.own o with
   |some (.gro t e z l)=>if Nat.ble st.ro o && !z && Nat.beq l.length n && Nat.ble n r5 then (JX l).map fun zs=>(bC8 k o zs (t8+n),⟨B5 st.own o (.gro t e false ((gY k zs).map fun x=> .sc (.int .i64 x))),st.next,st.ro⟩) else none
   |_=>none
 | .sc (.slice none n c)=>if Nat.beq n 0 then some (if Nat.beq k 0 then .tup [] else .sc (.slice none n c),st) else none
 |_=>none
def aM9 (st:n4):V→Option (V × n4)
 | .ptr o k=>if Nat.beq k 0 then (match i7 st.own o with
   |some (.row t e g z l)=>if Nat.ble st.ro o && !z && Nat.beq e 0 && !g then (if Nat.ble (L8 t).1.size r5 then (if Nat.blt (L8 t).2 (L8 t).1.size then
     some (.tup [.sc (.bool true),.sc (.int .i64 (L8 t).2),.sc (.int .i32 (Utf8.decode (L8 t).1 (L8 t).2).1)],⟨B5 st.own o (.row (pM (L8 t).1 ((L8 t).2+(Utf8.decode (L8 t).1 (L8 t).2).2)) 0 false false []),st.next,st.ro⟩)
     else some (.tup [.sc (.bool false)],st)) else none) else none
   |_=>none) else none
 |_=>none
def P8 (fr:D0) (st:n4):K8→Option (V × n4)
 | .store n a v=>(p7 fr a).bind fun a=>(p7 fr v).bind fun v=>(GM st n a v).map fun st=>(.tup [],st)
 | .app t e b x y=>(p7 fr x).bind fun x=>(p7 fr y).bind fun y=>rU st t e b x y
 | .copy e d x=>(p7 fr d).bind fun d=>(p7 fr x).bind fun x=>UT st e d x
 | .ustr t p n=>(p7 fr p).bind fun p=>(p7 fr n).bind fun n=>VD st t p n
 | .lib k x=>(p7 fr x).bind fun x=>bJ0 st k x
 | .nextS x=>(p7 fr x).bind fun x=>aM9 st x
 |_=>none
def NQ (old:Nat→Nat→Option Value) (fr:D0) (st:n4) (o:K8):Option (V × n4):=
 match i6 old fr st.own st.next o with
 |some (v,ob,fz)=>if B0 st.ro st.own fz then some (v,st.push ob fz) else none
 |none=>P8 fr st o
theorem Y2 {s n:Nat} {l:List D}:yL (.sl s n l)=true↔s ≠ 1∨n ≠ 0:=by
 have hb:∀ i j:Nat,Nat.beq i j=false↔i ≠ j:=fun i j=>by
  rw[← Bool.not_eq_true,j7]
 simp only[yL,Bool.or_eq_true,Bool.not_eq_true',hb]
structure HR (E:D9) (H:D6) (heap:m0) (w:VW):Prop where
 ld:w.ld=n7 E heap
 obj:∀ o ob,i7 H o=some ob→ob.none=false→∃ b blk,w.μ o=some b∧g9 heap b=some blk∧fN w ob blk
 ex:∀ b,w.F b→∃ blk,g9 heap b=some blk
section
variable {E:D9} {H:D6} {heap:m0} {w w':VW} {fr:D0} {frI:Fr}
theorem cQ (a:Addr) (i j:Nat):A7 (A7 a i) j=A7 a (i+j):=by simp[A7,Nat.add_assoc]
theorem x9.get:∀ {l:List D} {a:Addr},x9 w l a→∀ (i:Nat) d,l[i]? =some d→∃ v,w.ld (A7 a i)=some v∧A5 w d v
 | [],a,_,i,d,e=>by simp at e
 |x::r,a,h,i,d,e=>by
  simp only[x9] at h
  cases i with
  |zero=>simp at e;subst e;exact h.1
  |succ i=>
   simp at e
   have:=x9.get h.2 i d e
   rw[cQ,Nat.add_comm 1 i] at this
   exact this
theorem x9.of:∀ {l:List D} {a:Addr},(∀ (i:Nat) d,l[i]? =some d→∃ v,w.ld (A7 a i)=some v∧A5 w d v)→x9 w l a
 | [],a,_=>by simp only[x9]
 |x::r,a,h=>by
  simp only[x9]
  refine ⟨h 0 x rfl,x9.of fun i d e=>?_⟩
  have:=h (i+1) d (by simpa using e)
  rw[cQ,Nat.add_comm 1 i]
  exact this
theorem x9.part {l:List D} {a:Addr} (h:x9 w l a) (i n:Nat):x9 w ((l.drop i).take n) (A7 a i):=x9.of fun j d e=>by
 rw[List.getElem?_take] at e
 split at e
 ·rw[List.getElem?_drop] at e
  rw[cQ]
  exact h.get (i+j) d e
 ·cases e
theorem l6.length:∀ {l:List D} {vs:List Value},l6 w l vs→vs.length=l.length
 | [],vs,h=>by simp only[l6] at h;simp[h]
 |d::r,vs,h=>by
  simp only[l6] at h
  obtain ⟨v,vs',rfl,h1,h2⟩:=h
  simp[h2.length]
theorem l6.get:∀ {l:List D} {vs:List Value},l6 w l vs→∀ (i:Nat) d,l[i]? =some d→∃ v,vs[i]? =some v∧A5 w d v
 | [],vs,_,i,d,e=>by simp at e
 |x::r,vs,h,i,d,e=>by
  simp only[l6] at h
  obtain ⟨v,vs',rfl,h1,h2⟩:=h
  cases i with
  |zero=>simp at e;subst e;exact ⟨v,rfl,h1⟩
  |succ i=>simp at e;obtain ⟨u,a,b⟩:=h2.get i d e;exact ⟨u,by simpa using a,b⟩
theorem l6.of:∀ {l:List D} {vs:List Value},vs.length=l.length→(∀ (i:Nat) d v,l[i]? =some d→vs[i]? =some v→A5 w d v)→l6 w l vs
 | [],vs,hl,_=>by simp only[l6];exact List.eq_nil_of_length_eq_zero hl
 |x::r,[],hl,_=>by simp at hl
 |x::r,v::vs,hl,h=>by
  simp only[l6]
  exact ⟨v,vs,rfl,h 0 x v rfl rfl,l6.of (by simpa using hl) fun i d u e1 e2=>h (i+1) d u (by simpa using e1) (by simpa using e2)⟩
theorem l6.append {l m:List D} {vs us:List Value} (h:l6 w l vs) (k:l6 w m us):l6 w (l++m) (vs++us):=by
 refine l6.of (by simp[h.length,k.length]) fun i d v e1 e2=>?_
 have hl:=h.length
 by_cases hi:i<l.length
 ·rw[List.getElem?_append_left hi] at e1
  rw[List.getElem?_append_left (by omega)] at e2
  obtain ⟨v',a,b⟩:=h.get i d e1
  rw[e2] at a;cases a;exact b
 ·rw[List.getElem?_append_right (by omega)] at e1
  rw[List.getElem?_append_right (by omega)] at e2
  rw[hl] at e2
  obtain ⟨v',a,b⟩:=k.get _ d e1
  rw[e2] at a;cases a;exact b
theorem l6.part {l:List D} {vs:List Value} (h:l6 w l vs) (i n:Nat):l6 w ((l.drop i).take n) ((vs.drop i).take n):=by
 have hl:=h.length
 refine l6.of (by simp[hl]) fun j d v e1 e2=>?_
 rw[List.getElem?_take] at e1 e2
 split at e1
 ·rename_i hj
  rw[if_pos hj] at e2
  rw[List.getElem?_drop] at e1 e2
  obtain ⟨v',a,b⟩:=h.get _ d e1
  rw[e2] at a;cases a;exact b
 ·cases e1
theorem l6.drop {l:List D} {vs:List Value} (h:l6 w l vs) (i:Nat):l6 w (l.drop i) (vs.drop i):=by
 have hl:=h.length
 refine l6.of (by simp[hl]) fun j d v e1 e2=>?_
 rw[List.getElem?_drop] at e1 e2
 obtain ⟨v',a,b⟩:=h.get _ d e1
 rw[e2] at a;cases a;exact b
theorem l6.take {l:List D} {vs:List Value} (h:l6 w l vs) (n:Nat):l6 w (l.take n) (vs.take n):=h.part 0 n
theorem f9.length:∀ {l:List V} {vs:List Value},f9 w l vs→vs.length=l.length
 | [],vs,h=>by simp only[f9] at h;simp[h]
 |d::r,vs,h=>by
  simp only[f9] at h
  obtain ⟨v,vs',rfl,h1,h2⟩:=h
  simp[h2.length]
theorem f9.get:∀ {l:List V} {vs:List Value},f9 w l vs→∀ (i:Nat) d,l[i]? =some d→∃ v,vs[i]? =some v∧d7 w d v
 | [],vs,_,i,d,e=>by simp at e
 |x::r,vs,h,i,d,e=>by
  simp only[f9] at h
  obtain ⟨v,vs',rfl,h1,h2⟩:=h
  cases i with
  |zero=>simp at e;subst e;exact ⟨v,rfl,h1⟩
  |succ i=>simp at e;obtain ⟨u,a,b⟩:=h2.get i d e;exact ⟨u,by simpa using a,b⟩
theorem f9.of:∀ {l:List V} {vs:List Value},vs.length=l.length→(∀ (i:Nat) d v,l[i]? =some d→vs[i]? =some v→d7 w d v)→f9 w l vs
 | [],vs,hl,_=>by simp only[f9];exact List.eq_nil_of_length_eq_zero hl
 |x::r,[],hl,_=>by simp at hl
 |x::r,v::vs,hl,h=>by
  simp only[f9]
  exact ⟨v,vs,rfl,h 0 x v rfl rfl,f9.of (by simpa using hl) fun i d u e1 e2=>h (i+1) d u (by simpa using e1) (by simpa using e2)⟩
theorem f9.part {l:List V} {vs:List Value} (h:f9 w l vs) (i n:Nat):f9 w ((l.drop i).take n) ((vs.drop i).take n):=by
 have hl:=h.length
 refine f9.of (by simp[hl]) fun j d v e1 e2=>?_
 rw[List.getElem?_take] at e1 e2
 split at e1
 ·rename_i hj
  rw[if_pos hj] at e2
  rw[List.getElem?_drop] at e1 e2
  obtain ⟨v',a,b⟩:=h.get _ d e1
  rw[e2] at a;cases a;exact b
 ·cases e1
theorem f9.sc:∀ (z:List Value),z.all D5=true→f9 w (YL z) z
 | [],_=>by simp[YL,f9]
 |v::r,h=>by
  simp only[List.all_cons,Bool.and_eq_true] at h
  simp only[YL,List.map_cons,f9,d7]
  exact ⟨v,r,rfl,⟨rfl,h.1⟩,f9.sc r h.2⟩
theorem l6.sc:∀ (z:List Value),z.all D5=true→l6 w (lU z) z
 | [],_=>by simp[lU,l6]
 |v::r,h=>by
  simp only[List.all_cons,Bool.and_eq_true] at h
  simp only[lU,List.map_cons,l6,A5]
  exact ⟨v,r,rfl,⟨rfl,h.1⟩,l6.sc r h.2⟩
theorem pA {d:D} {v:Value} (h:A5 w d v):d7 w (dv d) v:=by
 cases d with
 |sc x=>simp only[A5] at h;simp only[dv,d7];exact h
 |sl s n l=>simp only[dv,d7];exact h
theorem EI:∀ {l:List D} {vs:List Value},l6 w l vs→f9 w (dvL l) vs
 | [],vs,h=>by simp only[l6] at h;simp only[dvL,f9];exact h
 |d::r,vs,h=>by
  simp only[l6] at h
  obtain ⟨v,vs',rfl,h1,h2⟩:=h
  simp only[dvL,f9]
  exact ⟨v,vs',rfl,pA h1,EI h2⟩
theorem d7.one {v:V} {vI:Value} (h:d7 w v vI) (ho:bD v=true):B2 vI=true:=by
 cases v with
 |sc x=>simp only[d7] at h;rw[h.1];exact oA _ h.2
 |sl s n l=>
  simp only[d7,A5] at h
  rcases h with ⟨a,c,rfl,_⟩|⟨_,_,_,rfl|⟨_,k,b,e,rfl⟩⟩<;>rfl
 |slk s n c l=>
  simp only[d7] at h
  rcases h with ⟨_,_,⟨a,rfl,_⟩|⟨_,_,_,_,rfl⟩⟩<;>rfl
 |dp l o=>simp only[d7] at h;obtain ⟨a,rfl,_⟩:=h;rfl
 |ref o k n c=>simp only[d7] at h;obtain ⟨_,_,b,rfl,_⟩:=h;rfl
 |gr s o n=>
  simp only[d7] at h
  rcases h with ⟨_,⟨_,rfl|⟨_,a,c,rfl,_⟩⟩|⟨_,b,rfl,_⟩⟩<;>rfl
 |ptr o k=>simp only[d7] at h;obtain ⟨_,b,rfl,_⟩:=h;rfl
 |agg l=>simp[bD] at ho
 |tup l=>simp[bD] at ho
 |fn f a b=>simp only[d7] at h;obtain ⟨_,_,rfl,_⟩:=h;rfl
 |ifc t v=>simp only[d7] at h;obtain ⟨_,rfl,_⟩:=h;rfl
 |dead=>simp[bD] at ho
 |tok o=>simp[bD] at ho
theorem f9.one {l:List V} {vs:List Value} (h:f9 w l vs) (ho:l.all bD=true):vs.all B2=true:=by
 rw[List.all_eq_true] at ho ⊢
 intro v hv
 obtain ⟨i,hi,e⟩:=List.getElem_of_mem hv
 have hl:=h.length
 have hi':i<l.length:=by omega
 obtain ⟨v',a,b⟩:=h.get i (l[i]) (by simp[hi'])
 rw[List.getElem?_eq_getElem hi,e] at a
 cases a
 exact b.one (ho _ (List.getElem_mem _))
theorem A5.one {d:D} {v:Value} (h:A5 w d v):B2 v=true:=(pA h).one (by cases d<;>rfl)
theorem l6.one {l:List D} {vs:List Value} (h:l6 w l vs):vs.all B2=true:=by
 rw[List.all_eq_true]
 intro v hv
 obtain ⟨i,hi,e⟩:=List.getElem_of_mem hv
 have hl:=h.length
 have hi':i<l.length:=by omega
 obtain ⟨v',a,b⟩:=h.get i (l[i]) (by simp[hi'])
 rw[List.getElem?_eq_getElem hi,e] at a
 cases a
 exact b.one
theorem eW {v:V} {vI:Value} {cs:List V} (h:d7 w v vI) (hc:K4 v=some cs):f9 w cs vI.cells.toList∧cs.all bD=true:=by
 have key:bD v=true→cs= [v]→f9 w cs vI.cells.toList∧cs.all bD=true:=fun ho e=>by
  subst e
  rw[zH (h.one ho)]
  simp only[f9,List.all_cons,ho,List.all_nil,Bool.and_true,and_true]
  exact ⟨vI,[],rfl,h,rfl⟩
 cases v with
 |agg l=>
  simp only[K4] at hc
  split at hc
  ·rename_i hl
   cases hc
   simp only[d7] at h
   obtain ⟨vs,rfl,h⟩:=h
   exact ⟨h,hl⟩
  ·cases hc
 |tup l=>simp[K4] at hc
 |dead=>simp[K4] at hc
 |tok o=>simp[K4] at hc
 |_=>simp only[K4,Option.some.injEq] at hc;exact key rfl hc.symm
theorem KM {b:Nat}:∀ (n o:Nat) (f:Nat→Value),(∀ i,i<n→E.old b (o+i)=some (f i))→yM E b o n=some ((List.range n).map f)
 |0,o,f,h=>by simp[yM]
 |n+1,o,f,h=>by
  simp only[yM]
  rw[show E.old b o=some (f 0) from h 0 (by omega)]
  simp only[Option.bind_some]
  rw[KM n (o+1) (fun i=>f (i+1)) (fun i hi=>by have:=h (i+1) (by omega);rw[show o+1+i=o+(i+1) by omega];exact this)]
  simp[List.range_succ_eq_map,List.map_map]
theorem aI0 {α:Type} (cs:List α) (n:Nat) (f:Nat→α) (hn:n≤cs.length) (h:∀ i,i<n→cs[i]? =some (f i)):cs.take n=(List.range n).map f:=by
 refine List.ext_getElem? fun i=>?_
 rw[List.getElem?_take]
 by_cases hi:i<n
 ·rw[if_pos hi,h i hi];simp[hi]
 ·rw[if_neg hi];simp[hi]
theorem iX (hr:HR E H heap w) {a:Addr} {l:List D} (hi:w.inF a) (h:x9 w l a) (n:Nat) (hn:n≤l.length):∃ vs,G6 E heap a n=some vs∧l6 w (l.take n) vs:=by
 have hg:∀ i,i<n→∃ v,n7 E heap (A7 a i)=some v∧∀ d,l[i]? =some d→A5 w d v:=fun i hin=>by
  obtain ⟨v,e1,e2⟩:=h.get i (l[i]'(by omega)) (by simp)
  rw[hr.ld] at e1
  exact ⟨v,e1,fun d hd=>by rw[List.getElem?_eq_getElem (by omega)] at hd;cases hd;exact e2⟩
 let f:Nat→Value:=fun i=>if hin:i<n then (hg i hin).choose else .nilIface
 have hf:∀ i (hin:i<n),n7 E heap (A7 a i)=some (f i)∧∀ d,l[i]? =some d→A5 w d (f i):=fun i hin=>by
  have:=(hg i hin).choose_spec
  simp only[f,dif_pos hin]
  exact this
 refine ⟨(List.range n).map f,?_,l6.of (by simp[hn]) fun i d v e1 e2=>?_⟩
 ·obtain ⟨b,o,_|k⟩:=a
  ·simp only[G6]
   exact KM n o f fun i hin=>(hf i hin).1
  ·obtain ⟨blk,hb⟩:=hr.ex b hi
   obtain rfl|⟨q,rfl⟩:k=0∨∃ q,k=q+1:=by
    cases k with
    |zero=>exact .inl rfl
    |succ q=>exact .inr ⟨q,rfl⟩
   case inr=>
    rcases Nat.eq_zero_or_pos n with h0|h0
    ·subst h0;rfl
    ·have:=(hf 0 h0).1
     simp[n7,A7] at this
   simp only[G6,hb,Option.bind_some]
   have hlen:o+n≤blk.cells.length∨n=0:=by
    rcases Nat.eq_zero_or_pos n with h0|h0
    ·exact .inr h0
    ·left
     have:=(hf (n - 1) (by omega)).1
     simp only[n7,A7,hb,Option.bind_some,z8] at this
     have hlt:o+(n - 1)<blk.cells.length:=by
      rcases Nat.lt_or_ge (o+(n - 1)) blk.cells.length with h'|h'
      ·exact h'
      ·rw[List.getElem?_eq_none h'] at this;cases this
     omega
   rcases hlen with hlen|rfl
   ·rw[X1 _ _ (by simp;omega)]
    congr 1
    refine aI0 _ _ _ (by simp;omega) fun i hin=>?_
    have:=(hf i hin).1
    simp only[n7,A7,hb,Option.bind_some,z8] at this
    rw[List.getElem?_drop]
    exact this
   ·cases List.drop o blk.cells<;>rfl
 ·rw[List.getElem?_take] at e1
  split at e1
  ·rename_i hin
   simp only[List.getElem?_map,List.getElem?_range hin,Option.map_some,Option.some.injEq] at e2
   subst e2
   exact (hf i hin).2 d e1
  ·cases e1
theorem dT {b k n:Nat} {blk:w7} (hb:g9 heap b=some blk) (hn:k+n≤blk.cells.length):G6 E heap ⟨b,k,some 0⟩ n=some ((blk.cells.drop k).take n):=by
 simp only[G6,hb,Option.bind_some]
 exact X1 _ _ (by simp;omega)
theorem iY {b k:Nat} {blk:w7} (hb:g9 heap b=some blk):n7 E heap ⟨b,k,some 0⟩=blk.cells[k]? :=by
 simp only[n7,hb,Option.bind_some,z8]
def VJ (heap:m0) (w w':VW) (fz:List Nat):Prop:=∀ o ∈ fz,∀ b,w.μ o=some b→∀ (k sp:Nat) (blk:w7),g9 heap b=some blk→w'.ld ⟨b,k,some 0⟩=blk.cells[k]?
theorem x9.ofL {b:Nat} {blk:w7} {l:List D} (hr:∀ k:Nat,w.ld ⟨b,k,some 0⟩=blk.cells[k]?) (h:l6 w l blk.cells) (k:Nat):x9 w (l.drop k) ⟨b,k,some 0⟩:=x9.of fun i d e=>by
 rw[List.getElem?_drop] at e
 obtain ⟨v,e1,e2⟩:=h.get _ d e
 refine ⟨v,?_,e2⟩
 show w.ld ⟨b,k+i,some 0⟩=some v
 rw[hr];exact e1
theorem m6 (hf:FR w fr frI) {x:Operand} {v:V} (h:p7 fr x=some v):∃ vI,ev frI x=some vI∧d7 w v vI:=by
 cases x with
 |tmp t=>exact hf t v h
 |const c=>
  simp only[p7] at h
  split at h
  ·rename_i hc;cases h;exact ⟨c,rfl,by simp only[d7];exact ⟨by trivial,hc⟩⟩
  ·cases h
 |global g=>simp only[p7,Option.some.injEq] at h;subst h;exact ⟨_,rfl,by simp only[d7];exact ⟨by trivial,rfl⟩⟩
 |func f=>simp only[p7,Option.some.injEq] at h;subst h;exact ⟨_,rfl,by simp only[d7];exact ⟨by trivial,rfl⟩⟩
theorem aB (hf:FR w fr frI):∀ {xs:List Operand} {vs:List V},T7 fr xs=some vs→∃ vI,RR frI xs=some vI∧f9 w vs vI
 | [],vs,h=>by simp only[T7,Option.some.injEq] at h;subst h;exact ⟨[],rfl,by simp only[f9]⟩
 |x::r,vs,h=>by
  simp only[T7,Option.bind_eq_some_iff,Option.some.injEq] at h
  obtain ⟨v,h1,vs',h2,rfl⟩:=h
  obtain ⟨u,a1,a2⟩:=m6 hf h1
  obtain ⟨us,b1,b2⟩:=aB hf h2
  exact ⟨u::us,by simp[RR,a1,b1],by simp only[f9];exact ⟨u,us,rfl,a2,b2⟩⟩
theorem eY (hf:FR w fr frI) {x:Option Operand} {v:Option Value} (h:T6 fr x=some v):RQ frI x=some v:=by
 cases x with
 |none=>simp only[T6,Option.some.injEq] at h;subst h;rfl
 |some x=>
  simp only[T6,Option.bind_eq_some_iff] at h
  obtain ⟨u,h1,h2⟩:=h
  obtain ⟨uI,a1,a2⟩:=m6 hf h1
  split at h2
  ·cases h2
   simp only[d7] at a2
   simp[RQ,a1,a2.1]
  ·cases h2
def fO (w:VW):List (Nat × Nat × V)→List (Nat × Nat × Value)→Prop
 | [],q=>q= []
 |(o,n,v)::r,q=>∃ vI q',q=(o,n,vI)::q'∧d7 w v vI∧fO w r q'
theorem iM (hf:FR w fr frI):∀ {xs:List (Nat × Nat × Operand)} {vs:List (Nat × Nat × V)},K5 fr xs=some vs→∃ vI,cC frI xs=some vI∧fO w vs vI
 | [],vs,h=>by simp only[K5,Option.some.injEq] at h;subst h;exact ⟨[],rfl,rfl⟩
 |(o,n,x)::r,vs,h=>by
  simp only[K5,Option.bind_eq_some_iff,Option.some.injEq] at h
  obtain ⟨v,h1,vs',h2,rfl⟩:=h
  obtain ⟨u,a1,a2⟩:=m6 hf h1
  obtain ⟨us,b1,b2⟩:=iM hf h2
  exact ⟨(o,n,u)::us,by simp[cC,a1,b1],u,us,rfl,a2,b2⟩
theorem jQ:∀ {l:List V} {k:Nat} {cs r:List V} {ls vs:List Value},C8 l k cs=some r→f9 w l ls→f9 w cs vs→∃ rs,O9 ls k vs=some rs∧f9 w r rs
 |l,k,[],r,ls,vs,h,hl,hc=>by
  simp only[f9] at hc
  subst hc
  have:r=l:=by cases l<;>cases k<;>simp[C8] at h<;>first|exact h|exact h.symm
  subst this
  exact ⟨ls,by cases ls<;>cases k<;>rfl,hl⟩
 | [],k,c::cs,r,ls,vs,h,hl,hc=>by cases k<;>simp[C8] at h
 |x::l,0,c::cs,r,ls,vs,h,hl,hc=>by
  simp only[C8,Option.map_eq_some_iff] at h
  obtain ⟨r',h1,rfl⟩:=h
  simp only[f9] at hl hc
  obtain ⟨v,ls',rfl,a1,a2⟩:=hl
  obtain ⟨u,vs',rfl,b1,b2⟩:=hc
  obtain ⟨rs,c1,c2⟩:=jQ h1 a2 b2
  exact ⟨u::rs,by simp[O9,c1],by simp only[f9];exact ⟨u,rs,rfl,b1,c2⟩⟩
 |x::l,k+1,c::cs,r,ls,vs,h,hl,hc=>by
  simp only[C8,Option.map_eq_some_iff] at h
  obtain ⟨r',h1,rfl⟩:=h
  simp only[f9] at hl
  obtain ⟨v,ls',rfl,a1,a2⟩:=hl
  obtain ⟨rs,c1,c2⟩:=jQ h1 a2 hc
  obtain ⟨u,vs',rfl,b1,b2⟩:=(by simpa only[f9] using hc:∃ v vs',vs=v::vs'∧d7 w c v∧f9 w cs vs')
  exact ⟨v::rs,by simp[O9,c1],by simp only[f9];exact ⟨v,rs,rfl,a1,c2⟩⟩
theorem M9:∀ {l:List D} {k:Nat} {cs r:List D} {ls vs:List Value},C8 l k cs=some r→l6 w l ls→l6 w cs vs→∃ rs,O9 ls k vs=some rs∧l6 w r rs
 |l,k,[],r,ls,vs,h,hl,hc=>by
  simp only[l6] at hc
  subst hc
  have:r=l:=by cases l<;>cases k<;>simp[C8] at h<;>first|exact h|exact h.symm
  subst this
  exact ⟨ls,by cases ls<;>cases k<;>rfl,hl⟩
 | [],k,c::cs,r,ls,vs,h,hl,hc=>by cases k<;>simp[C8] at h
 |x::l,0,c::cs,r,ls,vs,h,hl,hc=>by
  simp only[C8,Option.map_eq_some_iff] at h
  obtain ⟨r',h1,rfl⟩:=h
  simp only[l6] at hl hc
  obtain ⟨v,ls',rfl,a1,a2⟩:=hl
  obtain ⟨u,vs',rfl,b1,b2⟩:=hc
  obtain ⟨rs,c1,c2⟩:=M9 h1 a2 b2
  exact ⟨u::rs,by simp[O9,c1],by simp only[l6];exact ⟨u,rs,rfl,b1,c2⟩⟩
 |x::l,k+1,c::cs,r,ls,vs,h,hl,hc=>by
  simp only[C8,Option.map_eq_some_iff] at h
  obtain ⟨r',h1,rfl⟩:=h
  simp only[l6] at hl
  obtain ⟨v,ls',rfl,a1,a2⟩:=hl
  obtain ⟨rs,c1,c2⟩:=M9 h1 a2 hc
  obtain ⟨u,vs',rfl,b1,b2⟩:=(by simpa only[l6] using hc:∃ v vs',vs=v::vs'∧A5 w c v∧l6 w cs vs')
  exact ⟨v::rs,by simp[O9,c1],by simp only[l6];exact ⟨v,rs,rfl,a1,c2⟩⟩
theorem xN:∀ {ps:List (Nat × Nat × V)} {qs:List (Nat × Nat × Value)} {l r:List V} {ls:List Value},X7 l ps=some r→f9 w l ls→fO w ps qs→∃ rs,kN ls qs=some rs∧f9 w r rs
 | [],qs,l,r,ls,h,hl,hp=>by
  simp only[fO] at hp;subst hp
  simp only[X7,Option.some.injEq] at h;subst h
  exact ⟨ls,rfl,hl⟩
 |(o,n,v)::ps,qs,l,r,ls,h,hl,hp=>by
  simp only[fO] at hp
  obtain ⟨vI,q',rfl,h1,h2⟩:=hp
  simp only[X7,Option.bind_eq_some_iff] at h
  obtain ⟨cs,hc,h⟩:=h
  split at h
  case isFalse=>cases h
  rename_i hcond
  simp only[Bool.and_eq_true] at hcond
  simp only[Option.bind_eq_some_iff] at h
  obtain ⟨l',hl',h⟩:=h
  obtain ⟨c1,c2⟩:=eW h1 hc
  obtain ⟨rs,d1,d2⟩:=jQ hl' hl c1
  obtain ⟨rs',e1,e2⟩:=xN h d2 h2
  refine ⟨rs',?_,e2⟩
  simp only[kN]
  rw[c1.length,hl.length,if_pos (by rw[hcond.1,hcond.2];rfl),d1]
  exact e1
def VI (w w':VW) (fz:List Nat):Prop:=∀ o ∈ fz,∀ b,w.μ o=some b→w'.F b
theorem QD (hr:HR E H heap w) (hle:VW.le w w') {v:V} {vI:Value} {d:D} (h:d7 w v vI) (ht:aL H v=some d) (hf:VI w w' (rZ v)) (hld:VJ heap w w' (rZ v)):A5 w' d vI∧yL d=true:=by
 cases v with
 |sc x=>
  simp only[aL,Option.some.injEq] at ht;subst ht
  simp only[d7] at h
  exact ⟨by simp only[A5];exact h,rfl⟩
 |sl s n l=>
  simp only[aL] at ht
  split at ht
  ·rename_i ho;cases ht;simp only[d7] at h;exact ⟨h.mono hle,ho⟩
  ·cases ht
 |slk s n c l=>
  simp only[aL] at ht
  split at ht
  ·rename_i hs
   have hs':s=0∨s=3:=by
    rw[Bool.or_eq_true,j7,j7] at hs;exact hs
   cases ht
   simp only[d7] at h
   obtain ⟨h1,h2,h3⟩:=h
   refine ⟨?_,by rcases hs' with rfl|rfl<;>rfl⟩
   simp only[A5]
   rcases h3 with ⟨a,rfl,i,r⟩|⟨k1,k2,k3,k4,rfl⟩
   ·left
    refine ⟨a,c,rfl,hle.inF i,?_,r.mono hle i,fun e=>by omega⟩
    unfold F8;rw[F5,if_pos h1];exact h2
   ·subst k2 k4;exact .inr ⟨k1,rfl,rfl,.inl rfl⟩
  ·cases ht
 |ref o k n c=>
  simp only[aL] at ht
  split at ht
  case h_2=>cases ht
  rename_i t e g z l ho
  split at ht
  case isFalse=>cases ht
  rename_i hle2
  cases ht
  simp only[d7] at h
  obtain ⟨h1,h2,b',rfl,h3⟩:=h
  obtain ⟨b,blk,m1,m2,m3⟩:=hr.obj o _ ho rfl
  have:=h3 b m1
  subst this
  have hF:w'.F b':=hf o (by simp[rZ]) b' m1
  refine ⟨?_,Y2.2 (.inl (by omega))⟩
  simp only[A5]
  left
  refine ⟨_,c,rfl,hF,h2,?_,fun e=>by cases e⟩
  have r:=(m3.2.2.2).mono hle
  have:=(x9.ofL (fun k=>hld o (by simp[rZ]) b' m1 k 0 blk m2) r k).part 0 (n*e)
  simpa [A7] using this
 |gr s o n=>
  simp only[aL] at ht
  split at ht
  case h_2=>cases ht
  rename_i t e z l ho
  split at ht
  case isFalse=>cases ht
  rename_i hc
  obtain ⟨hl,hs0,hs1,he⟩:=hc
  cases ht
  simp only[d7] at h
  obtain ⟨h1,h2⟩:=h
  refine ⟨?_,Y2.2 (.inl hs1)⟩
  simp only[A5]
  rcases h2 with ⟨rfl,rfl|⟨hs2,a,c,rfl,i⟩⟩|⟨hn,b',rfl,h3⟩
  ·right
   refine ⟨hs0,rfl,?_,.inl rfl⟩
   rw[Nat.zero_mul] at hl
   exact List.eq_nil_of_length_eq_zero hl
  ·left
   rw[Nat.zero_mul] at hl
   have:=List.eq_nil_of_length_eq_zero hl
   subst this
   exact ⟨a,c,rfl,hle.inF i,by unfold F8;exact Nat.zero_le _,by simp only[x9],fun e=>absurd e hs2⟩
  ·left
   have hnn:(Obj.gro t e z l).none=false:=by
    cases l with
    |nil=>
     exfalso
     rw[List.length_nil] at hl
     rcases Nat.mul_eq_zero.1 hl.symm with hl|hl
     ·exact hn hl
     ·exact he hl
    |cons=>rfl
   obtain ⟨b,blk,m1,m2,m3⟩:=hr.obj o _ ho hnn
   have:=h3 b m1
   subst this
   have hF:w'.F b':=hf o (by simp[rZ]) b' m1
   refine ⟨_,_,rfl,hF,?_,?_,fun _=>hn⟩
   ·unfold F8;rw[F5,if_neg (by omega)];omega
   ·have r:=(m3.2.2.2).mono hle
    simpa using x9.ofL (fun k=>hld o (by simp[rZ]) b' m1 k 0 blk m2) r 0
 |_=>simp[aL] at ht
end
def kI (heap:m0) (w:VW) (n:Nat) (v:V) (ob:Option Obj) (fz:List Nat) (vI:Value) (bs:List w7):Prop:=
 match ob with
 |none=>bs= []∧fz= []∧d7 w v vI
 |some o=>o.none=false∧o.fz=false∧o.ok=true∧∃ blk,bs= [blk]∧∀ w',VW.le w w'→VI w w' fz→VJ heap w w' fz→w.nx<w'.nx→w'.μ w.nx=some n→d7 w' v vI∧fN w' o blk
section
variable {E:D9} {H:D6} {heap:m0} {w:VW} {fr:D0} {frI:Fr} {n p:Nat} {v:V} {ob:Option Obj} {fz:List Nat}
theorem aQ2 {op:BinOp} {a b r:Value} (h:I6 op a b=some r):D5 r=true:=by
 unfold I6 at h
 split at h
 ·split at h
  ·split at h
   ·cases h
   ·cases h;rfl
  ·split at h
   ·cases h
   ·cases h;rfl
  ·split at h
   case isFalse=>cases h
   split at h<;>first|(cases h;rfl)|(split at h;cases h;first|(cases h;rfl)|skip)|cases h
   all_goals (cases h;rfl)
 ·split at h<;>first|(cases h;rfl)|(split at h;cases h;rfl;cases h)|cases h
 ·cases h
theorem bI9 {op:UnOp} {a r:Value} (h:unA op a=some r):D5 r=true:=by
 unfold unA at h
 split at h<;>first|(cases h;rfl)|cases h
theorem d7.scv {x v:Value} (h:d7 w (.sc x) v):v=x:=by simp only[d7] at h;exact h.1
theorem d7.mksc {x:Value} (h:D5 x=true):d7 w (.sc x) x:=by simp only[d7];exact ⟨by trivial,h⟩
theorem d7.ok {x v:Value} (h:d7 w (.sc x) v):D5 x=true:=by simp only[d7] at h;exact h.2
theorem kI.pure {vI:Value} (h:d7 w v vI):kI heap w n v none [] vI []:=⟨rfl,rfl,h⟩
theorem P4 {x:Option V} (h:vp x=some (v,ob,fz)):x=some v∧ob=none∧fz= []:=by
 cases x with
 |none=>cases h
 |some y=>cases h;exact ⟨rfl,rfl,rfl⟩
abbrev J3 (E:D9) (heap:m0) (w:VW) (frI:Fr) (n p:Nat) (op:K8) (v:V) (ob:Option Obj) (fz:List Nat):Prop:=
 ∃ vI bs,d6 E frI ⟨heap,n,p⟩ op=some (vI,bs)∧kI heap w n v ob fz vI bs
abbrev K6 (E:D9) (H:D6) (w:VW) (fr:D0) (op:K8) (v:V) (ob:Option Obj) (fz:List Nat):Prop:=i6 E.old fr H w.nx op=some (v,ob,fz)
theorem bJ9 (hf:FR w fr frI) {x:Operand} (h:K6 E H w fr (.mov x) v ob fz):J3 E heap w frI n p (.mov x) v ob fz:=by
 simp only[K6,i6] at h
 obtain ⟨h0,rfl,rfl⟩:=P4 h;replace h:=h0
 obtain ⟨vI,a,b⟩:=m6 hf h
 exact ⟨vI,[],by simp[d6,a],.pure b⟩
theorem aX6 (hf:FR w fr frI) {c x y:Operand} (h:K6 E H w fr (.pick c x y) v ob fz):J3 E heap w frI n p (.pick c x y) v ob fz:=by
 simp only[K6,i6,Option.bind_eq_some_iff] at h
 obtain ⟨u,h1,h⟩:=h
 split at h
 case h_2=>cases h
 rename_i t
 obtain ⟨h0,rfl,rfl⟩:=P4 h;replace h:=h0
 obtain ⟨uI,a1,a2⟩:=m6 hf h1
 obtain ⟨vI,b1,b2⟩:=m6 hf h
 have:=a2.scv
 subst this
 exact ⟨vI,[],by simp[d6,a1,b1],.pure b2⟩
theorem bJ3 (hf:FR w fr frI) {op:BinOp} {x y:Operand} (h:K6 E H w fr (.bin op x y) v ob fz):J3 E heap w frI n p (.bin op x y) v ob fz:=by
 simp only[K6,i6,Option.bind_eq_some_iff] at h
 obtain ⟨a,h1,b,h2,h⟩:=h
 split at h
 case h_2=>cases h
 obtain ⟨h0,rfl,rfl⟩:=P4 h;replace h:=h0
 simp only[Option.map_eq_some_iff] at h
 obtain ⟨r,hr,rfl⟩:=h
 obtain ⟨aI,a1,a2⟩:=m6 hf h1
 obtain ⟨bI,b1,b2⟩:=m6 hf h2
 rw[a2.scv] at a1
 rw[b2.scv] at b1
 exact ⟨r,[],by simp[d6,a1,b1,hr],.pure (.mksc (aQ2 hr))⟩
theorem bJ6 (hf:FR w fr frI) {g:Bool} {x y:Operand} (h:K6 E H w fr (.eqB g x y) v ob fz):J3 E heap w frI n p (.eqB g x y) v ob fz:=by
 simp only[K6,i6,Option.bind_eq_some_iff] at h
 obtain ⟨a,h1,b,h2,h⟩:=h
 split at h
 case h_2=>cases h
 cases h
 obtain ⟨aI,a1,a2⟩:=m6 hf h1
 obtain ⟨bI,b1,b2⟩:=m6 hf h2
 rw[a2.scv] at a1
 rw[b2.scv] at b1
 exact ⟨_,[],by simp[d6,a1,b1],.pure (.mksc rfl)⟩
theorem bQ4 (hf:FR w fr frI) {op:UnOp} {x:Operand} (h:K6 E H w fr (.un op x) v ob fz):J3 E heap w frI n p (.un op x) v ob fz:=by
 simp only[K6,i6,Option.bind_eq_some_iff] at h
 obtain ⟨a,h1,h⟩:=h
 split at h
 case h_2=>cases h
 obtain ⟨h0,rfl,rfl⟩:=P4 h;replace h:=h0
 simp only[Option.map_eq_some_iff] at h
 obtain ⟨r,hr,rfl⟩:=h
 obtain ⟨aI,a1,a2⟩:=m6 hf h1
 rw[a2.scv] at a1
 exact ⟨r,[],by simp[d6,a1,hr],.pure (.mksc (bI9 hr))⟩
theorem aN4 (hf:FR w fr frI) {k:IntKind} {x:Operand} (h:K6 E H w fr (.convI k x) v ob fz):J3 E heap w frI n p (.convI k x) v ob fz:=by
 simp only[K6,i6,Option.bind_eq_some_iff] at h
 obtain ⟨a,h1,h⟩:=h
 split at h
 case h_2=>cases h
 cases h
 obtain ⟨aI,a1,a2⟩:=m6 hf h1
 rw[a2.scv] at a1
 exact ⟨_,[],by simp[d6,a1],.pure (.mksc rfl)⟩
theorem aN5 (hf:FR w fr frI) {x:Operand} (h:K6 E H w fr (.convS x) v ob fz):J3 E heap w frI n p (.convS x) v ob fz:=by
 simp only[K6,i6,Option.bind_eq_some_iff] at h
 obtain ⟨a,h1,h⟩:=h
 split at h
 case h_2=>cases h
 cases h
 obtain ⟨aI,a1,a2⟩:=m6 hf h1
 rw[a2.scv] at a1
 exact ⟨_,[],by simp[d6,a1],.pure (.mksc rfl)⟩
theorem bQ3 (hf:FR w fr frI) {g:Bool} {x y:Operand} (h:K6 E H w fr (.mm g x y) v ob fz):J3 E heap w frI n p (.mm g x y) v ob fz:=by
 simp only[K6,i6,Option.bind_eq_some_iff] at h
 obtain ⟨a,h1,b,h2,h⟩:=h
 split at h
 case h_2=>cases h
 cases h
 obtain ⟨aI,a1,a2⟩:=m6 hf h1
 obtain ⟨bI,b1,b2⟩:=m6 hf h2
 rw[a2.scv] at a1
 rw[b2.scv] at b1
 exact ⟨_,[],by simp[d6,a1,b1],.pure (.mksc rfl)⟩
theorem aX8 (hf:FR w fr frI) {x:Operand} {lo hi:Option Operand} (h:K6 E H w fr (.slcS x lo hi) v ob fz):J3 E heap w frI n p (.slcS x lo hi) v ob fz:=by
 simp only[K6,i6,Option.bind_eq_some_iff] at h
 obtain ⟨a,h1,lo',h2,hi',h3,h⟩:=h
 split at h
 case h_2=>cases h
 simp only[Option.bind_eq_some_iff] at h
 obtain ⟨i,hi,j,hj,h⟩:=h
 cases h
 obtain ⟨aI,a1,a2⟩:=m6 hf h1
 rw[a2.scv] at a1
 exact ⟨_,[],by simp[d6,a1,eY hf h2,eY hf h3,hi,hj],.pure (.mksc rfl)⟩
theorem YA (hf:FR w fr frI) {x i:Operand} (h:K6 E H w fr (.idxStr x i) v ob fz):J3 E heap w frI n p (.idxStr x i) v ob fz:=by
 simp only[K6,i6,Option.bind_eq_some_iff] at h
 obtain ⟨a,h1,b,h2,h⟩:=h
 split at h
 case h_2=>cases h
 simp only[Option.bind_eq_some_iff] at h
 obtain ⟨j,hj,c,hc,h⟩:=h
 cases h
 obtain ⟨aI,a1,a2⟩:=m6 hf h1
 obtain ⟨bI,b1,b2⟩:=m6 hf h2
 rw[a2.scv] at a1
 rw[b2.scv] at b1
 exact ⟨_,[],by simp[d6,a1,b1,hj,hc],.pure (.mksc rfl)⟩
theorem YB (hf:FR w fr frI) {x:Operand} (h:K6 E H w fr (.nilChk x) v ob fz):J3 E heap w frI n p (.nilChk x) v ob fz:=by
 simp only[K6,i6,Option.bind_eq_some_iff] at h
 obtain ⟨a,h1,h⟩:=h
 obtain ⟨aI,a1,a2⟩:=m6 hf h1
 split at h<;>first|cases h|skip
 all_goals refine ⟨aI,[],?_,.pure a2⟩
 all_goals simp only[d7] at a2
 ·obtain ⟨_,b,rfl,_⟩:=a2;simp[d6,a1]
 ·obtain ⟨b,rfl,_⟩:=a2;simp[d6,a1]
 ·obtain ⟨_,_,rfl,_⟩:=a2;simp[d6,a1]
 ·obtain ⟨b,rfl,_⟩:=a2;simp[d6,a1]
 ·obtain ⟨rfl,_⟩:=a2;simp[d6,a1]
 ·obtain ⟨rfl,_⟩:=a2;simp[d6,a1]
 ·obtain ⟨rfl,_⟩:=a2;simp[d6,a1]
theorem AU {k:Nat} {vI:Value} {b:Bool} (hv:d7 w v vI) (h:D7 k v=some b):pL k vI=some b:=by
 cases v with
 |sc x=>rw[hv.scv];exact h
 |sl s n l=>
  simp only[D7] at h
  split at h
  case isFalse=>cases h
  rename_i hk
  have:=j7.1 hk;subst this
  simp only[d7,A5] at hv
  rcases hv with ⟨a,c,rfl,_,_,_,hs⟩|⟨h1,rfl,h3,h4⟩
  ·have hb:b=false:=by
    split at h
    ·cases h;rfl
    ·split at h
     ·rename_i hs2
      cases h
      rw[← Bool.not_eq_true,j7]
      exact hs (j7.1 hs2)
     ·split at h
      ·cases h
      ·cases h;rfl
   subst hb;rfl
  ·rw[if_neg (by rw[j7];exact h1)] at h
   split at h
   ·rename_i hs2
    have hs2:=j7.1 hs2
    cases h
    rcases h4 with rfl|⟨h5,_⟩
    ·rfl
    ·omega
   ·cases h
 |slk s n c l=>
  simp only[D7] at h
  split at h
  case isFalse=>cases h
  rename_i hk
  have:=j7.1 hk;subst this
  simp only[d7] at hv
  rcases hv with ⟨_,_,⟨a,rfl,_⟩|⟨h1,rfl,_⟩⟩
  ·have hb:b=false:=by
    split at h
    ·cases h;rfl
    ·split at h
     ·cases h
     ·cases h;rfl
   subst hb;rfl
  ·rw[if_neg (by rw[j7];exact h1)] at h
   cases h
 |ref o k' n c=>
  simp only[D7] at h
  split at h
  case isFalse=>cases h
  rename_i hk
  have:=j7.1 hk;subst this
  cases h
  simp only[d7] at hv
  obtain ⟨_,_,b,rfl,_⟩:=hv;rfl
 |gr s o n=>
  simp only[D7] at h
  split at h
  case isFalse=>cases h
  rename_i hk
  have:=j7.1 hk;subst this
  simp only[d7] at hv
  rcases hv with ⟨_,⟨rfl,h2⟩|⟨hn,b',rfl,_⟩⟩
  ·split at h
   ·rename_i hs
    have hs:=j7.1 hs
    cases h
    rcases h2 with rfl|⟨h3,_⟩
    ·rfl
    ·exact absurd hs h3
   ·cases h
  ·have hb:b=false:=by
    split at h
    ·cases h
     rw[← Bool.not_eq_true,j7];exact hn
    ·split at h
     ·cases h
     ·cases h;rfl
   subst hb;rfl
 |ptr o k'=>
  simp only[D7] at h
  split at h
  case isFalse=>cases h
  rename_i hk
  have:=j7.1 hk;subst this
  cases h
  simp only[d7] at hv
  obtain ⟨_,b,rfl,_⟩:=hv;rfl
 |dp l o=>
  simp only[D7] at h
  split at h
  case isFalse=>cases h
  rename_i hk
  have:=j7.1 hk;subst this
  cases h
  simp only[d7] at hv
  obtain ⟨b,rfl,_⟩:=hv;rfl
 |fn f a b=>
  simp only[D7] at h
  split at h
  case isFalse=>cases h
  rename_i hk
  have:=j7.1 hk;subst this
  cases h
  simp only[d7] at hv
  obtain ⟨_,_,rfl,_⟩:=hv;rfl
 |_=>simp[D7] at h
theorem aN7 (hf:FR w fr frI) {k:Nat} {g:Bool} {x y:Operand} (h:K6 E H w fr (.eqNil k g x y) v ob fz):J3 E heap w frI n p (.eqNil k g x y) v ob fz:=by
 simp only[K6,i6,Option.bind_eq_some_iff] at h
 obtain ⟨a,h1,b,h2,q,h3,r,h4,h⟩:=h
 split at h
 case isFalse=>cases h
 rename_i hc
 cases h
 obtain ⟨aI,a1,a2⟩:=m6 hf h1
 obtain ⟨bI,b1,b2⟩:=m6 hf h2
 refine ⟨_,[],?_,.pure (.mksc rfl)⟩
 simp only[d6,a1,b1,AU a2 h3,AU b2 h4,Option.bind_some]
 rw[if_pos hc]
end
section
variable {E:D9} {H:D6} {heap:m0} {w:VW} {fr:D0} {frI:Fr} {n p:Nat} {v:V} {ob:Option Obj} {fz:List Nat}
theorem d7.ptr_new {w':VW} {o n:Nat} (h1:o<w'.nx) (h2:w'.μ o=some n) (k:Nat):d7 w' (.ptr o k) (.pointer (some ⟨n,k,some 0⟩)):=by
 simp only[d7]
 exact ⟨h1,n,rfl,fun b hb=>by rw[h2] at hb;cases hb;rfl⟩
theorem d7.ref_new {w':VW} {o n:Nat} (h1:o<w'.nx) (h2:w'.μ o=some n) (k m c:Nat) (hc:F8 m c):d7 w' (.ref o k m c) (.slice (some ⟨n,k,some 0⟩) m c):=by
 simp only[d7]
 exact ⟨h1,hc,n,rfl,fun b hb=>by rw[h2] at hb;cases hb;rfl⟩
theorem d7.gr_new {w':VW} {o n:Nat} (h1:o<w'.nx) (h2:w'.μ o=some n) (m:Nat) (hm:m ≠ 0):d7 w' (.gr 2 o m) (.slice (some ⟨n,0,some 0⟩) m (t8+m)):=by
 simp only[d7]
 exact ⟨h1,.inr ⟨hm,n,rfl,fun b hb=>by rw[h2] at hb;cases hb;rfl⟩⟩
theorem PI (z:List Value):P1 (lU z)=true:=by simp[P1,lU,List.all_eq_true,yL]
theorem WX (l:List UInt8):P1 (l.map fun b=> .sc (.int .u8 b.toNat))=true:=by simp[P1,List.all_eq_true,yL]
theorem aN1 {t:TypeId} {z:List (Nat × Value)} (h:K6 E H w fr (.alloc t z) v ob fz):J3 E heap w frI n p (.alloc t z) v ob fz:=by
 simp only[K6,i6] at h
 split at h
 case isFalse=>cases h
 rename_i hz
 cases h
 exact ⟨_,_,rfl,rfl,rfl,rfl,_,rfl,fun w' h1 h2 h3 h4 h5=>⟨.ptr_new h4 h5 0,rfl,rfl,rfl,.sc _ hz⟩⟩
theorem bJ4 (hf:FR w fr frI) {t:TypeId} {x:Operand} (h:K6 E H w fr (.box t x) v ob fz):J3 E heap w frI n p (.box t x) v ob fz:=by
 simp only[K6,i6,Option.bind_eq_some_iff] at h
 obtain ⟨a,h1,cs,h2,h⟩:=h
 cases h
 obtain ⟨aI,a1,a2⟩:=m6 hf h1
 exact ⟨_,[⟨aI.cells.toList,1,false,t⟩],by simp[d6,a1],rfl,rfl,rfl,_,rfl,fun w' h3 h4 h5 h6 h7=>⟨.ptr_new h6 h7 0,rfl,rfl,rfl,(eW a2 h2).1.mono h3⟩⟩
theorem aN3 (hf:FR w fr frI) {z:List Value} {ps:List (Nat × Nat × Operand)} (h:K6 E H w fr (.build z ps) v ob fz):J3 E heap w frI n p (.build z ps) v ob fz:=by
 simp only[K6,i6] at h
 split at h
 case isFalse=>cases h
 rename_i hz
 simp only[Option.bind_eq_some_iff] at h
 obtain ⟨vs,h1,h⟩:=h
 obtain ⟨h0,rfl,rfl⟩:=P4 h;replace h:=h0
 simp only[Option.map_eq_some_iff] at h
 obtain ⟨cs,h2,rfl⟩:=h
 obtain ⟨qs,a1,a2⟩:=iM hf h1
 obtain ⟨rs,b1,b2⟩:=xN h2 (.sc z hz) a2
 refine ⟨.agg ⟨rs⟩,[],by simp[d6,a1,b1],.pure ?_⟩
 simp only[d7]
 exact ⟨rs,rfl,b2⟩
theorem sM {w':VW} (hr:HR E H heap w) (hle:VW.le w w'):∀ {l:List V} {vs:List Value} {ds:List D},f9 w l vs→X5 H l=some ds→VI w w' (jF l)→VJ heap w w' (jF l)→l6 w' ds vs∧P1 ds=true
 | [],vs,ds,h,ht,_,_=>by
  simp only[X5,Option.some.injEq] at ht;subst ht
  simp only[f9] at h;subst h
  exact ⟨by simp only[l6],rfl⟩
 |x::r,vs,ds,h,ht,hf,hld=>by
  simp only[X5,Option.bind_eq_some_iff,Option.map_eq_some_iff] at ht
  obtain ⟨d,h1,ds',h2,rfl⟩:=ht
  simp only[f9] at h
  obtain ⟨u,us,rfl,k1,k2⟩:=h
  obtain ⟨a1,a2⟩:=QD hr hle k1 h1 (fun o ho=>hf o (by simp[jF,ho])) (fun o ho=>hld o (by simp[jF,ho]))
  obtain ⟨b1,b2⟩:=sM hr hle k2 h2 (fun o ho=>hf o (by simp[jF,ho])) (fun o ho=>hld o (by simp[jF,ho]))
  exact ⟨by simp only[l6];exact ⟨u,us,rfl,a1,b1⟩,by simp only[P1,List.all_cons,a2,Bool.true_and];exact b2⟩
theorem aW3 {v:V} {d:D} (h:aL H v=some d):yL d=true:=by
 cases v with
 |sc x=>simp only[aL,Option.some.injEq] at h;subst h;rfl
 |sl s n l=>
  simp only[aL] at h;split at h;· rename_i ho;cases h;exact ho
  cases h
 |slk s n c l=>
  simp only[aL] at h
  split at h
  ·rename_i hs
   cases h
   rw[Bool.or_eq_true,j7,j7] at hs
   exact Y2.2 (.inl (by omega))
  ·cases h
 |ref o k n c=>
  simp only[aL] at h
  split at h
  ·split at h
   ·cases h;rfl
   ·cases h
  ·cases h
 |gr s o n=>
  simp only[aL] at h
  split at h
  ·split at h
   ·rename_i hs;cases h;exact Y2.2 (.inl hs.2.2.1)
   ·cases h
  ·cases h
 |_=>simp[aL] at h
theorem wZ:∀ {l:List V} {ds:List D},X5 H l=some ds→P1 ds=true
 | [],ds,h=>by simp only[X5,Option.some.injEq] at h;subst h;rfl
 |x::r,ds,h=>by
  simp only[X5,Option.bind_eq_some_iff,Option.map_eq_some_iff] at h
  obtain ⟨d,h1,ds',h2,rfl⟩:=h
  have:=wZ h2
  simp only[P1,List.all_cons,aW3 h1,Bool.true_and]
  exact this
theorem J1:∀ {l:List D} {k:Nat} {cs r:List D},C8 l k cs=some r→P1 l=true→P1 cs=true→P1 r=true
 |l,k,[],r,h,hl,hc=>by
  have:r=l:=by cases l<;>cases k<;>simp[C8] at h<;>first|exact h|exact h.symm
  subst this;exact hl
 | [],k,c::cs,r,h,hl,hc=>by cases k<;>simp[C8] at h
 |x::l,0,c::cs,r,h,hl,hc=>by
  simp only[C8,Option.map_eq_some_iff] at h
  obtain ⟨r',h1,rfl⟩:=h
  simp only[P1,List.all_cons,Bool.and_eq_true] at hl hc ⊢
  exact ⟨hc.1,J1 h1 hl.2 hc.2⟩
 |x::l,k+1,c::cs,r,h,hl,hc=>by
  simp only[C8,Option.map_eq_some_iff] at h
  obtain ⟨r',h1,rfl⟩:=h
  have:=J1 h1 (by simp only[P1,List.all_cons,Bool.and_eq_true] at hl;exact hl.2) hc
  simp only[P1,List.all_cons,Bool.and_eq_true] at hl ⊢
  exact ⟨hl.1,this⟩
theorem aW2 {v:V} {vI:Value} {d:D} (h:d7 w v vI) (ht:MS v=some d):A5 w d vI∧yL d=true:=by
 cases v with
 |sc x=>
  simp only[MS,Option.some.injEq] at ht;subst ht
  simp only[d7] at h
  exact ⟨by simp only[A5];exact h,rfl⟩
 |sl s n l=>
  simp only[MS] at ht
  split at ht
  ·rename_i ho;cases ht;simp only[d7] at h;exact ⟨h,ho⟩
  ·cases ht
 |slk s n c l=>
  simp only[MS] at ht
  split at ht
  ·rename_i hs
   have hs':s=0∨s=3:=by
    rw[Bool.or_eq_true,j7,j7] at hs;exact hs
   cases ht
   simp only[d7] at h
   obtain ⟨h1,h2,h3⟩:=h
   refine ⟨?_,by rcases hs' with rfl|rfl<;>rfl⟩
   simp only[A5]
   rcases h3 with ⟨a,rfl,i,r⟩|⟨k1,k2,k3,k4,rfl⟩
   ·left
    refine ⟨a,c,rfl,i,?_,r,fun e=>by omega⟩
    unfold F8;rw[F5,if_pos h1];exact h2
   ·subst k2 k4;exact .inr ⟨k1,rfl,rfl,.inl rfl⟩
  ·cases ht
 |_=>simp[MS] at ht
theorem MT:∀ {l:List V} {vs:List Value} {ds:List D},f9 w l vs→CR l=some ds→l6 w ds vs∧P1 ds=true
 | [],vs,ds,h,ht=>by
  simp only[CR,Option.some.injEq] at ht;subst ht
  simp only[f9] at h;subst h
  exact ⟨by simp only[l6],rfl⟩
 |x::r,vs,ds,h,ht=>by
  simp only[CR,Option.bind_eq_some_iff,Option.map_eq_some_iff] at ht
  obtain ⟨d,h1,ds',h2,rfl⟩:=ht
  simp only[f9] at h
  obtain ⟨u,us,rfl,k1,k2⟩:=h
  obtain ⟨a1,a2⟩:=aW2 k1 h1
  obtain ⟨b1,b2⟩:=MT k2 h2
  exact ⟨by simp only[l6];exact ⟨u,us,rfl,a1,b1⟩,by simp only[P1,List.all_cons,a2,Bool.true_and];exact b2⟩
theorem II:∀ {ps:List (Nat × Nat × V)} {qs:List (Nat × Nat × Value)} {l r:List D} {ls:List Value},fX l ps=some r→l6 w l ls→P1 l=true→fO w ps qs→∃ rs,kN ls qs=some rs∧l6 w r rs∧P1 r=true
 | [],qs,l,r,ls,h,hl,ho,hp=>by
  simp only[fO] at hp;subst hp
  simp only[fX,Option.some.injEq] at h;subst h
  exact ⟨ls,rfl,hl,ho⟩
 |(o,n,v)::ps,qs,l,r,ls,h,hl,ho,hp=>by
  simp only[fO] at hp
  obtain ⟨vI,q',rfl,h1,h2⟩:=hp
  simp only[fX,Option.bind_eq_some_iff] at h
  obtain ⟨cs,hc,ds,hd,h⟩:=h
  split at h
  case isFalse=>cases h
  rename_i hcond
  simp only[Bool.and_eq_true] at hcond
  simp only[Option.bind_eq_some_iff] at h
  obtain ⟨l',hl',h⟩:=h
  obtain ⟨c1,c2⟩:=eW h1 hc
  obtain ⟨d1,d2⟩:=MT c1 hd
  obtain ⟨rs,e1,e2⟩:=M9 hl' hl d1
  obtain ⟨rs',f1,f2,f3⟩:=II h e2 (J1 hl' ho d2) h2
  refine ⟨rs',?_,f2,f3⟩
  simp only[kN]
  rw[d1.length,hl.length,if_pos (by rw[hcond.1,hcond.2];rfl),e1]
  exact f1
theorem lE {n:Nat} (h:n<t8):F8 n n:=by unfold F8;rw[F5,if_pos h];exact Nat.le_refl _
theorem aN9 (hf:FR w fr frI) {t:TypeId} {e k:Nat} {z:List Value} {ps:List (Nat × Nat × Operand)} (h:K6 E H w fr (.mkRow t e k z ps) v ob fz):J3 E heap w frI n p (.mkRow t e k z ps) v ob fz:=by
 simp only[K6,i6] at h
 split at h
 case isFalse=>cases h
 rename_i hz
 simp only[Bool.and_eq_true,Nat.blt_eq] at hz
 simp only[Option.bind_eq_some_iff] at h
 obtain ⟨vs,h1,h⟩:=h
 obtain ⟨qs,a1,a2⟩:=iM hf h1
 split at h
 ·rename_i cs h2
  cases h
  obtain ⟨rs,c1,c2,c3⟩:=II h2 (.sc _ hz.1) (PI _) a2
  exact ⟨.slice (some ⟨n,0,some 0⟩) k k,[⟨rs,e,false,t⟩],by simp[d6,a1,c1],rfl,rfl,c3,_,rfl,fun w' h3 h4 h5 h6 h7=>⟨.ref_new h6 h7 0 k k (lE hz.2),rfl,rfl,rfl,c2.mono h3⟩⟩
 ·simp only[Option.bind_eq_some_iff] at h
  obtain ⟨cs,h2,h⟩:=h
  cases h
  obtain ⟨rs,c1,c2⟩:=xN h2 (.sc _ hz.1) a2
  exact ⟨.slice (some ⟨n,0,some 0⟩) k k,[⟨rs,e,false,t⟩],by simp[d6,a1,c1],rfl,rfl,rfl,_,rfl,fun w' h3 h4 h5 h6 h7=>⟨.ref_new h6 h7 0 k k (lE hz.2),rfl,rfl,rfl,c2.mono h3⟩⟩
theorem xR (hr:HR E H heap w) {g:Option Nat} {u:V} {uI:Value} (hu:d7 w u uI) (h:bP E.old H g u=some v):∃ vI,(match uI with| .pointer (some a)=>(X0 E heap a g)|_=>none)=some vI∧d7 w v vI:=by
 cases u with
 |ptr o k=>
  simp only[d7] at hu
  obtain ⟨h1,b',rfl,h2⟩:=hu
  simp only[bP] at h
  have hD:∀ {l:List D} {blk:w7},g9 heap b'=some blk→l6 w l blk.cells→B4 l k g=some v→∃ vI,X0 E heap ⟨b',k,some 0⟩ g=some vI∧d7 w v vI:=by
   intro l blk hb hl h
   cases g with
   |none=>
    simp only[B4,Option.map_eq_some_iff] at h
    obtain ⟨d,hd,rfl⟩:=h
    rw[z8] at hd
    obtain ⟨vI,e1,e2⟩:=hl.get k d hd
    exact ⟨vI,by simp only[X0];rw[iY hb];exact e1,pA e2⟩
   |some m=>
    simp only[B4] at h
    split at h
    ·cases h
    rename_i h0
    rw[j7] at h0
    simp only[Option.map_eq_some_iff] at h
    obtain ⟨ds,hd,rfl⟩:=h
    obtain ⟨rfl,hm⟩:=E5 _ _ hd
    have hlen:=hl.length
    rw[List.length_drop] at hm
    refine ⟨.agg ⟨(blk.cells.drop k).take m⟩,by simp only[X0];rw[dT hb (by omega)];rfl,?_⟩
    simp only[d7]
    exact ⟨_,rfl,EI (hl.part k m)⟩
  split at h
  ·rename_i t e0 l ho
   obtain ⟨b,blk,m1,m2,m3⟩:=hr.obj o _ ho rfl
   have:=h2 b m1
   subst this
   cases g with
   |none=>
    simp only[tK] at h
    rw[z8] at h
    obtain ⟨vI,e1,e2⟩:=m3.2.2.2.get k v h
    exact ⟨vI,by simp only[X0];rw[iY m2];exact e1,e2⟩
   |some m=>
    simp only[tK,Option.map_eq_some_iff] at h
    obtain ⟨ds,hd,rfl⟩:=h
    obtain ⟨rfl,hm⟩:=E5 _ _ hd
    have hlen:=m3.2.2.2.length
    rw[List.length_drop] at hm
    by_cases h0:m=0
    ·subst h0
     refine ⟨.agg ⟨[]⟩,by simp only[X0,G6,m2,Option.bind_some];cases List.drop k blk.cells<;>rfl,?_⟩
     simp only[List.take_zero,d7,f9]
     exact ⟨[],rfl,rfl⟩
    ·refine ⟨.agg ⟨(blk.cells.drop k).take m⟩,by simp only[X0];rw[dT m2 (by omega)];rfl,?_⟩
     simp only[d7]
     exact ⟨_,rfl,m3.2.2.2.part k m⟩
  ·rename_i t e g' z l ho
   obtain ⟨b,blk,m1,m2,m3⟩:=hr.obj o _ ho rfl
   have:=h2 b m1
   subst this
   exact hD m2 m3.2.2.2 h
  ·rename_i t e z l ho
   by_cases hn:(Obj.gro t e z l).none=true
   ·cases l with
    |cons=>cases hn
    |nil=>
     cases g with
     |none=>simp[B4,B7] at h
     |some m=>
      cases m with
      |succ m=>simp[B4,D2] at h
      |zero=>simp[B4] at h
   ·obtain ⟨b,blk,m1,m2,m3⟩:=hr.obj o _ ho (by simpa using hn)
    have:=h2 b m1
    subst this
    exact hD m2 m3.2.2.2 h
  ·cases h
 |dp l k=>
  simp only[d7] at hu
  obtain ⟨a,rfl,i,hA⟩:=hu
  simp only[bP] at h
  cases g with
  |none=>
   simp only[B4,Option.map_eq_some_iff] at h
   obtain ⟨d,hd,rfl⟩:=h
   rw[z8] at hd
   obtain ⟨vI,e1,e2⟩:=hA.get k d hd
   rw[hr.ld] at e1
   exact ⟨vI,e1,pA e2⟩
  |some m=>
   simp only[B4] at h
   split at h
   ·cases h
   simp only[Option.map_eq_some_iff] at h
   obtain ⟨ds,hd,rfl⟩:=h
   obtain ⟨rfl,hm⟩:=E5 _ _ hd
   obtain ⟨vs,e1,e2⟩:=iX hr (jH (n:=k) i) (hA.part k m) m (by rw[List.length_take];omega)
   rw[List.take_take,Nat.min_self] at e2
   refine ⟨.agg ⟨vs⟩,by simp only[X0,e1];rfl,?_⟩
   simp only[d7]
   exact ⟨vs,rfl,EI e2⟩
 |sc x=>
  have hx:=hu.ok
  have:=hu.scv
  subst this
  cases uI with
  |pointer q=>
   cases q with
   |none=>simp[bP] at h
   |some a=>
    simp only[bP] at h
    cases g with
    |some m=>cases h
    |none=>
     simp only[Option.bind_eq_some_iff] at h
     obtain ⟨u,h1,h2⟩:=h
     split at h2
     case isFalse=>cases h2
     rename_i hu2
     cases h2
     simp only[D5,Option.isNone_iff_eq_none] at hx
     refine ⟨u,?_,.mksc hu2⟩
     simp only[X0,n7,hx]
     exact h1
  |_=>simp[bP] at h
 |_=>simp[bP] at h
theorem aX3 (hr:HR E H heap w) (hf:FR w fr frI) {g:Option Nat} {x:Operand} (h:K6 E H w fr (.load g x) v ob fz):J3 E heap w frI n p (.load g x) v ob fz:=by
 simp only[K6,i6,Option.bind_eq_some_iff] at h
 obtain ⟨a,h1,h⟩:=h
 obtain ⟨h0,rfl,rfl⟩:=P4 h;replace h:=h0
 obtain ⟨aI,a1,a2⟩:=m6 hf h1
 obtain ⟨vI,b1,b2⟩:=xR hr a2 h
 refine ⟨vI,[],?_,.pure b2⟩
 simp only[d6,a1,Option.bind_some]
 split at b1
 ·simp only[b1];rfl
 ·cases b1
theorem QL (hf:FR w fr frI) {t:TypeId} {e b:Nat} {z:List Value} {x y:Operand} (h:K6 E H w fr (.mkSlice t e b z x y) v ob fz):J3 E heap w frI n p (.mkSlice t e b z x y) v ob fz:=by
 simp only[K6,i6,Option.bind_eq_some_iff] at h
 obtain ⟨a,h1,c,h2,h⟩:=h
 split at h
 case h_2=>cases h
 split at h
 case isFalse=>cases h
 rename_i hc
 cases h
 obtain ⟨aI,a1,a2⟩:=m6 hf h1
 obtain ⟨bI,b1,b2⟩:=m6 hf h2
 rw[a2.scv] at a1
 rw[b2.scv] at b1
 obtain ⟨h0,h3,h4,h5,h6⟩:=hc
 refine ⟨_,_,by simp only[d6,a1,b1,Option.bind_some];rw[if_pos ⟨h0,h3,h4,h5⟩],rfl,rfl,PI _,_,rfl,fun w' k1 k2 k3 k4 k5=>⟨.ref_new k4 k5 0 _ _ ?_,rfl,rfl,rfl,.sc _ h6⟩⟩
 unfold F8
 have:r5<t8:=by unfold r5 t8;omega
 rw[F5,if_pos (by omega)]
 omega
theorem aW8 (hf:FR w fr frI) {o:Nat} {x:Operand} (h:K6 E H w fr (.fldA o x) v ob fz):J3 E heap w frI n p (.fldA o x) v ob fz:=by
 simp only[K6,i6,Option.bind_eq_some_iff] at h
 obtain ⟨a,h1,h⟩:=h
 obtain ⟨aI,a1,a2⟩:=m6 hf h1
 split at h<;>first|cases h|skip
 ·simp only[d7] at a2
  obtain ⟨k1,b',rfl,k2⟩:=a2
  refine ⟨_,[],by simp[d6,a1]<;>rfl,.pure ?_⟩
  simp only[d7]
  exact ⟨k1,b',rfl,k2⟩
 ·simp only[d7] at a2
  obtain ⟨c,rfl,i,k2⟩:=a2
  refine ⟨_,[],by simp[d6,a1]<;>rfl,.pure ?_⟩
  simp only[d7]
  exact ⟨c,by rw[cQ],i,k2⟩
 ·have hx:=a2.ok
  rw[a2.scv] at a1
  exact ⟨_,[],by simp[d6,a1]<;>rfl,.pure (.mksc hx)⟩
theorem GW {l:List V} {vI:Value} (h:d7 w (.agg l) vI):∃ cs,vI= .agg ⟨cs⟩∧f9 w l cs:=by simpa only[d7] using h
theorem gX {l:List V} {cs:List Value} (h:f9 w l cs) {i:Nat} {v:V} (e:B7 l i=some v):∃ vI,B7 cs i=some vI∧d7 w v vI:=by
 rw[z8] at e
 obtain ⟨vI,a,b⟩:=h.get i v e
 exact ⟨vI,by rw[z8];exact a,b⟩
theorem BF {l r:List V} {cs:List Value} (h:f9 w l cs) {i m:Nat} (e:D2 (l.drop i) m=some r):∃ rs,D2 (cs.drop i) m=some rs∧f9 w r rs:=by
 obtain ⟨rfl,hm⟩:=E5 _ _ e
 have hl:=h.length
 rw[List.length_drop] at hm
 by_cases h0:m=0
 ·subst h0
  exact ⟨[],by cases List.drop i cs<;>rfl,by simp only[List.take_zero,f9]⟩
 ·exact ⟨_,X1 _ _ (by rw[List.length_drop];omega),h.part i m⟩
theorem aW9 (hf:FR w fr frI) {o:Nat} {g:Option Nat} {x:Operand} (h:K6 E H w fr (.fldV o g x) v ob fz):J3 E heap w frI n p (.fldV o g x) v ob fz:=by
 simp only[K6,i6,Option.bind_eq_some_iff] at h
 obtain ⟨a,h1,h⟩:=h
 obtain ⟨aI,a1,a2⟩:=m6 hf h1
 split at h
 case h_2=>cases h
 obtain ⟨cs,rfl,c1⟩:=GW a2
 split at h
 ·obtain ⟨h0,rfl,rfl⟩:=P4 h;replace h:=h0
  obtain ⟨vI,e1,e2⟩:=gX c1 h
  exact ⟨vI,[],by simp[d6,a1,e1],.pure e2⟩
 ·obtain ⟨h0,rfl,rfl⟩:=P4 h;replace h:=h0
  simp only[Option.map_eq_some_iff] at h
  obtain ⟨r,hr,rfl⟩:=h
  obtain ⟨rs,e1,e2⟩:=BF c1 hr
  refine ⟨.agg ⟨rs⟩,[],by simp[d6,a1,e1],.pure ?_⟩
  simp only[d7]
  exact ⟨rs,rfl,e2⟩
theorem aX2 (hf:FR w fr frI) {m e:Nat} {g:Option Nat} {x i:Operand} (h:K6 E H w fr (.idxV m e g x i) v ob fz):J3 E heap w frI n p (.idxV m e g x i) v ob fz:=by
 simp only[K6,i6,Option.bind_eq_some_iff] at h
 obtain ⟨a,h1,b,h2,h⟩:=h
 obtain ⟨aI,a1,a2⟩:=m6 hf h1
 obtain ⟨bI,b1,b2⟩:=m6 hf h2
 split at h
 case h_2=>cases h
 rw[b2.scv] at b1
 obtain ⟨cs,rfl,c1⟩:=GW a2
 simp only[Option.bind_eq_some_iff] at h
 obtain ⟨j,hj,h⟩:=h
 split at h
 ·obtain ⟨h0,rfl,rfl⟩:=P4 h;replace h:=h0
  obtain ⟨vI,e1,e2⟩:=gX c1 h
  exact ⟨vI,[],by simp[d6,a1,b1,hj,e1],.pure e2⟩
 ·obtain ⟨h0,rfl,rfl⟩:=P4 h;replace h:=h0
  simp only[Option.map_eq_some_iff] at h
  obtain ⟨r,hr,rfl⟩:=h
  obtain ⟨rs,e1,e2⟩:=BF c1 hr
  refine ⟨.agg ⟨rs⟩,[],by simp[d6,a1,b1,hj,e1],.pure ?_⟩
  simp only[d7]
  exact ⟨rs,rfl,e2⟩
theorem bJ7 (hf:FR w fr frI) {i:Nat} {x:Operand} (h:K6 E H w fr (.ext x i) v ob fz):J3 E heap w frI n p (.ext x i) v ob fz:=by
 simp only[K6,i6,Option.bind_eq_some_iff] at h
 obtain ⟨a,h1,h⟩:=h
 obtain ⟨aI,a1,a2⟩:=m6 hf h1
 split at h
 case h_2=>cases h
 obtain ⟨h0,rfl,rfl⟩:=P4 h;replace h:=h0
 simp only[d7] at a2
 obtain ⟨cs,rfl,c1⟩:=a2
 obtain ⟨vI,e1,e2⟩:=gX c1 h
 exact ⟨vI,[],by simp[d6,a1,e1],.pure e2⟩
theorem aX4 (hf:FR w fr frI) {f:FuncId} {x y:List Operand} (h:K6 E H w fr (.mkFn f x y) v ob fz):J3 E heap w frI n p (.mkFn f x y) v ob fz:=by
 simp only[K6,i6,Option.bind_eq_some_iff] at h
 obtain ⟨a,h1,b,h2,h⟩:=h
 cases h
 obtain ⟨as,a1,a2⟩:=aB hf h1
 obtain ⟨bs,b1,b2⟩:=aB hf h2
 refine ⟨.func (.func f) ⟨as⟩ ⟨bs⟩,[],by simp[d6,a1,b1],.pure ?_⟩
 simp only[d7]
 exact ⟨as,bs,rfl,a2,b2⟩
theorem aX5 (hf:FR w fr frI) {t:TypeId} {x:Operand} (h:K6 E H w fr (.mkIf t x) v ob fz):J3 E heap w frI n p (.mkIf t x) v ob fz:=by
 simp only[K6,i6,Option.bind_eq_some_iff] at h
 obtain ⟨a,h1,h⟩:=h
 obtain ⟨aI,a1,a2⟩:=m6 hf h1
 refine ⟨.iface t aI,[],by simp[d6,a1],?_⟩
 split at h
 ·cases h
  have:=a2.scv
  subst this
  exact .pure (.mksc a2.ok)
 ·cases h
  refine .pure ?_
  simp only[d7]
  exact ⟨aI,rfl,a2⟩
theorem FA {vI:Value} {m:Nat} (hv:d7 w v vI) (h:U6 v=some m):lenA vI=some m∧(∀ b,vI ≠ .string b):=by
 cases v with
 |sl s k l=>
  simp only[U6,Option.some.injEq] at h;subst h
  simp only[d7,A5] at hv
  rcases hv with ⟨a,c,rfl,_⟩|⟨_,rfl,_,rfl|⟨_,_,_,_,rfl⟩⟩<;>exact ⟨rfl,fun _ e=>by cases e⟩
 |slk s k c l=>
  simp only[U6,Option.some.injEq] at h;subst h
  simp only[d7] at hv
  rcases hv with ⟨_,_,⟨a,rfl,_⟩|⟨_,rfl,_,_,rfl⟩⟩<;>exact ⟨rfl,fun _ e=>by cases e⟩
 |ref o k i c=>
  simp only[U6,Option.some.injEq] at h;subst h
  simp only[d7] at hv
  obtain ⟨_,_,b,rfl,_⟩:=hv
  exact ⟨rfl,fun _ e=>by cases e⟩
 |gr s o k=>
  simp only[U6,Option.some.injEq] at h;subst h
  simp only[d7] at hv
  rcases hv with ⟨_,⟨rfl,rfl|⟨_,a,c,rfl,_⟩⟩|⟨_,b,rfl,_⟩⟩<;>exact ⟨rfl,fun _ e=>by cases e⟩
 |sc x=>
  have hx:=hv.ok
  have:=hv.scv
  subst this
  cases vI with
  |slice a k c=>
   cases a with
   |none=>
    simp only[U6,Option.some.injEq] at h;subst h
    simp only[D5,Bool.and_eq_true,j7] at hx
    obtain ⟨rfl,_⟩:=hx
    exact ⟨rfl,fun _ e=>by cases e⟩
   |some a=>simp[U6] at h
  |_=>simp[U6] at h
 |_=>simp[U6] at h
theorem nK {vI:Value} {m:Nat} (hv:d7 w v vI) (h:R6 v=some m):lenA vI=some m:=by
 unfold R6 at h
 split at h
 ·cases h;rw[hv.scv];rfl
 ·exact (FA hv h).1
theorem bJ8 (hf:FR w fr frI) {t:Bool} {x:Operand} (h:K6 E H w fr (.len t x) v ob fz):J3 E heap w frI n p (.len t x) v ob fz:=by
 simp only[K6,i6,Option.bind_eq_some_iff] at h
 obtain ⟨a,h1,h⟩:=h
 obtain ⟨aI,a1,a2⟩:=m6 hf h1
 split at h
 ·rename_i ht
  subst ht
  split at h
  case h_2=>cases h
  cases h
  rw[a2.scv] at a1
  exact ⟨_,[],by simp[d6,a1],.pure (.mksc rfl)⟩
 ·rename_i ht
  simp only[Bool.not_eq_true] at ht
  subst ht
  simp only[Option.bind_eq_some_iff] at h
  obtain ⟨m,hm,h⟩:=h
  cases h
  obtain ⟨k1,k2⟩:=FA a2 hm
  refine ⟨_,[],?_,.pure (.mksc rfl)⟩
  simp only[d6,a1,Option.bind_some]
  unfold lenA at k1
  split at k1
  ·cases k1;rfl
  ·cases k1;rfl
  ·exact absurd rfl (k2 _)
  ·cases k1
theorem oP:∀ l:List UInt8,l6 w (l.map fun b=> .sc (.int .u8 b.toNat)) (r6 l)
 | []=>by simp[r6,l6]
 |b::r=>by
  simp only[List.map_cons,l6,A5,r6]
  exact ⟨_,_,rfl,⟨by trivial,rfl⟩,oP r⟩
theorem bK0 (hf:FR w fr frI) {t:TypeId} {x:Operand} (h:K6 E H w fr (.s2b t x) v ob fz):J3 E heap w frI n p (.s2b t x) v ob fz:=by
 simp only[K6,i6,Option.bind_eq_some_iff] at h
 obtain ⟨a,h1,h⟩:=h
 obtain ⟨aI,a1,a2⟩:=m6 hf h1
 split at h
 case h_2=>cases h
 split at h
 case isFalse=>cases h
 rename_i b hb
 cases h
 rw[a2.scv] at a1
 refine ⟨_,_,by simp only[d6,a1,Option.bind_some];rw[if_pos hb],rfl,rfl,WX _,_,rfl,fun w' k1 k2 k3 k4 k5=>⟨.ref_new k4 k5 0 _ _ ?_,rfl,rfl,rfl,?_⟩⟩
 ·unfold F8
  rw[F5,if_neg (by omega)]
  omega
 ·exact oP _
theorem YC (hf:FR w fr frI) {x:Operand} (h:K6 E H w fr (.rangeS x) v ob fz):J3 E heap w frI n p (.rangeS x) v ob fz:=by
 simp only[K6,i6,Option.bind_eq_some_iff] at h
 obtain ⟨a,h1,h⟩:=h
 obtain ⟨aI,a1,a2⟩:=m6 hf h1
 split at h
 case h_2=>cases h
 split at h
 case isFalse=>cases h
 rename_i b hb
 cases h
 rw[a2.scv] at a1
 refine ⟨_,_,by simp only[d6,a1,Option.bind_some];rw[if_pos hb],rfl,rfl,rfl,_,rfl,fun w' k1 k2 k3 k4 k5=>⟨?_,rfl,rfl,rfl,?_⟩⟩
 ·simp only[d7]
  exact ⟨k4,n,rfl,fun b hb=>Option.some.inj (k5.symm.trans hb)⟩
 ·simp only[l6,kQ]
theorem bJ5 (hf:FR w fr frI) {x:Operand} (h:K6 E H w fr (.cap x) v ob fz):J3 E heap w frI n p (.cap x) v ob fz:=by
 simp only[K6,i6,Option.bind_eq_some_iff] at h
 obtain ⟨a,h1,h⟩:=h
 obtain ⟨aI,a1,a2⟩:=m6 hf h1
 split at h
 case h_4=>cases h
 ·split at h
  case isFalse=>cases h
  rename_i hc
  cases h
  simp only[d7] at a2
  obtain ⟨_,_,b,rfl,_⟩:=a2
  exact ⟨_,[],by simp only[d6,a1,Option.bind_some];rw[if_pos hc],.pure (.mksc rfl)⟩
 ·rename_i s k c l
  cases h
  simp only[d7] at a2
  obtain ⟨hc,_,a2⟩:=a2
  have hc':Nat.blt c t8=true:=by rw[Nat.blt_eq];exact hc
  refine ⟨_,[],?_,.pure (.mksc rfl)⟩
  simp only[d6,a1,Option.bind_some]
  rcases a2 with ⟨a,rfl,_⟩|⟨_,rfl,rfl,_,rfl⟩
  ·simp only;rw[if_pos hc']
  ·simp only;rw[if_pos hc']
 ·cases h
  have hk:=a2.ok
  have:=a2.scv
  subst this
  simp only[D5,Bool.and_eq_true,j7] at hk
  obtain ⟨rfl,rfl⟩:=hk
  refine ⟨_,[],?_,.pure (.mksc rfl)⟩
  simp only[d6,a1,Option.bind_some]
  rfl
end
section
variable {E:D9} {H:D6} {heap:m0} {w:VW} {fr:D0} {frI:Fr} {n p:Nat} {v:V} {ob:Option Obj} {fz:List Nat}
theorem WQ {i:Value} {m j:Nat} (h:z6 i m=some j):j<m:=by
 unfold z6 at h
 split at h
 ·split at h
  ·rename_i hc;cases h;omega
  ·cases h
 ·cases h
theorem aX1 (hf:FR w fr frI) {e:Nat} {x i:Operand} (h:K6 E H w fr (.idxS e x i) v ob fz):J3 E heap w frI n p (.idxS e x i) v ob fz:=by
 simp only[K6,i6,Option.bind_eq_some_iff] at h
 obtain ⟨a,h1,b,h2,h⟩:=h
 obtain ⟨aI,a1,a2⟩:=m6 hf h1
 obtain ⟨bI,b1,b2⟩:=m6 hf h2
 split at h
 case h_2=>cases h
 rw[b2.scv] at b1
 split at h
 case h_5=>cases h
 all_goals simp only[Option.bind_eq_some_iff] at h
 all_goals obtain ⟨j,hj,h⟩:=h
 all_goals have hlt:=WQ hj
 all_goals cases h
 ·simp only[d7] at a2
  obtain ⟨k1,_,b',rfl,k2⟩:=a2
  refine ⟨_,[],by simp[d6,a1,b1,hj]<;>rfl,.pure ?_⟩
  simp only[d7]
  exact ⟨k1,b',rfl,k2⟩
 ·simp only[d7] at a2
  rcases a2 with ⟨k1,⟨rfl,_⟩|⟨_,b',rfl,k2⟩⟩
  ·omega
  refine ⟨_,[],by simp[d6,a1,b1,hj]<;>rfl,.pure ?_⟩
  simp only[d7]
  exact ⟨k1,b',by simp[A7],k2⟩
 ·simp only[d7,A5] at a2
  rcases a2 with ⟨c,d,rfl,k1,_,k2,_⟩|⟨_,rfl,_⟩
  ·refine ⟨_,[],by simp[d6,a1,b1,hj]<;>rfl,.pure ?_⟩
   simp only[d7]
   exact ⟨c,rfl,k1,k2⟩
  ·omega
 ·simp only[d7] at a2
  rcases a2 with ⟨_,_,⟨c,rfl,k1,k2⟩|⟨_,rfl,_⟩⟩
  ·refine ⟨_,[],by simp[d6,a1,b1,hj]<;>rfl,.pure ?_⟩
   simp only[d7]
   exact ⟨c,rfl,k1,k2⟩
  ·omega
theorem aX0 (hf:FR w fr frI) {m e:Nat} {x i:Operand} (h:K6 E H w fr (.idxA m e x i) v ob fz):J3 E heap w frI n p (.idxA m e x i) v ob fz:=by
 simp only[K6,i6,Option.bind_eq_some_iff] at h
 obtain ⟨a,h1,b,h2,h⟩:=h
 obtain ⟨aI,a1,a2⟩:=m6 hf h1
 obtain ⟨bI,b1,b2⟩:=m6 hf h2
 split at h
 case h_2=>cases h
 rw[b2.scv] at b1
 split at h
 case h_4=>cases h
 all_goals simp only[Option.bind_eq_some_iff] at h
 all_goals obtain ⟨j,hj,h⟩:=h
 all_goals cases h
 ·simp only[d7] at a2
  obtain ⟨k1,b',rfl,k2⟩:=a2
  refine ⟨_,[],by simp[d6,a1,b1,hj]<;>rfl,.pure ?_⟩
  simp only[d7]
  exact ⟨k1,b',rfl,k2⟩
 ·simp only[d7] at a2
  obtain ⟨c,rfl,k1,k2⟩:=a2
  refine ⟨_,[],by simp[d6,a1,b1,hj]<;>rfl,.pure ?_⟩
  simp only[d7]
  exact ⟨c,by rw[cQ],k1,k2⟩
 ·have hx:=a2.ok
  rw[a2.scv] at a1
  exact ⟨_,[],by simp[d6,a1,b1,hj]<;>rfl,.pure (.mksc hx)⟩
theorem R8 {i:Option Value} {d m m' j:Nat} (h:v7 i d m=some j) (hm:m≤m') (hd:d≤m):v7 i d m'=some j∧j≤m:=by
 unfold v7 at h ⊢
 split at h
 ·cases h;exact ⟨rfl,hd⟩
 ·split at h
  ·rename_i hc
   cases h
   exact ⟨by rw[if_pos ⟨hc.1,by omega⟩],by omega⟩
  ·cases h
 ·cases h
theorem F7 {i:Option Value} {d m j:Nat} (h:v7 i d m=some j) (hd:d≤m):j≤m:=(R8 h (Nat.le_refl _) hd).2
theorem E0 {c:Nat} (h:c<t8):y8 c=c:=by rw[F5,if_pos h]
theorem J0 {c:Nat} (h:¬ c<t8):y8 c=c - t8:=by rw[F5,if_neg h]
theorem eP {m c:Nat} {lo hi mx:Option Value} {r:Nat × Nat × Nat × Bool} (h:pX m c lo hi mx=some r) (hc:F8 m c) (a:Option Addr) (e:Nat):
  slcA e a m c lo hi mx=some (.slice (if r.2.2.2 then a else a.map (A7 · (r.1*e))) (r.2.1 - r.1) r.2.2.1)∧F8 (r.2.1 - r.1) r.2.2.1∧(r.2.2.2=true→r.1=0∨r.2.1=r.1∧r.2.2.1=0)∧r.1≤r.2.1:=by
 unfold F8 at hc ⊢
 unfold pX at h
 unfold slcA
 cases mx with
 |none=>
  simp only[Option.bind_eq_some_iff] at h
  obtain ⟨j,hj,i,hi',h⟩:=h
  have hj2:=F7 hj hc
  have hi2:=F7 hi' (Nat.zero_le _)
  simp only[hj,hi',Option.bind_some]
  split at h
  ·rename_i hb
   cases h
   rw[if_pos hb]
   rw[Nat.blt_eq] at hb
   rw[E0 hb] at hj2
   refine ⟨?_,?_,?_,hi2⟩
   ·by_cases e1:c=i
    ·subst e1;simp
    ·have:Nat.beq c i=false:=by rw[← Bool.not_eq_true,j7];exact e1
     simp[e1,this]
   ·simp only;rw[E0 (by omega)];omega
   ·intro ht;simp only at ht;have:=j7.1 ht;right;simp only;omega
  ·rename_i hb
   rw[if_neg hb]
   rw[Nat.blt_eq] at hb
   rw[J0 hb] at hj2
   split at h
   ·rename_i hl
    cases h
    rw[if_pos hl]
    rw[Nat.blt_eq] at hl
    refine ⟨by simp,?_,(fun ht=>by cases ht),hi2⟩
    simp only;rw[J0 (by omega)];omega
   ·rename_i hl
    rw[if_neg hl]
    split at h
    ·rename_i h0
     have h0:=j7.1 h0
     cases h
     subst h0
     refine ⟨by simp,?_,fun _=> .inl rfl,Nat.zero_le _⟩
     simp only;rw[J0 hb];omega
    ·cases h
 |some mv=>
  simp only[Option.bind_eq_some_iff] at h
  obtain ⟨k,hk,h⟩:=h
  have hk2:=F7 hk (Nat.zero_le _)
  simp only[hk,Option.bind_some]
  split at h
  case isFalse=>cases h
  rename_i hb
  rw[if_pos hb]
  simp only[Bool.and_eq_true,Nat.blt_eq] at hb
  simp only[Option.bind_eq_some_iff] at h
  obtain ⟨j,hj,i,hi',h⟩:=h
  have hj2:j≤k:=by
   cases hi with
   |none=>simp at hb
   |some hv=>
    unfold v7 at hj
    split at hj
    ·rename_i e;cases e
    ·split at hj
     ·rename_i hc2;cases hj;omega
     ·cases hj
    ·cases hj
  have hi2:=F7 hi' (Nat.zero_le _)
  simp only[hj,hi',Option.bind_some]
  cases h
  refine ⟨?_,?_,?_,hi2⟩
  ·by_cases e1:k=i
   ·subst e1;simp
   ·have:Nat.beq k i=false:=by rw[← Bool.not_eq_true,j7];exact e1
    simp[e1,this]
  ·simp only;rw[E0 (by omega)];omega
  ·intro ht;simp only at ht;have:=j7.1 ht;right;simp only;omega
theorem jO (l:List D) (a b:Nat) (h:b≤a):partD l a b= []:=by
 unfold partD
 rw[show b - a=0 by omega];simp
theorem x9.partD {l:List D} {a:Addr} (h:x9 w l a) (i j:Nat):x9 w (partD l i j) (A7 a i):=h.part i (j - i)
theorem x9.nil (a:Addr):x9 w [] a:=by simp only[x9]
theorem hS (i j:Nat):partD [] i j= []:=by simp[partD]
theorem VC {e:Nat} {lo hi mx:Option Value} {u:V} {uI:Value} (hu:d7 w u uI) (h:aC e lo hi mx u=some v):∃ a m c vI,uI= .slice a m c∧slcA e a m c lo hi mx=some vI∧d7 w v vI:=by
 cases u with
 |ref o k m c=>
  simp only[aC,Option.map_eq_some_iff] at h
  obtain ⟨r,hr,rfl⟩:=h
  simp only[d7] at hu
  obtain ⟨k1,k2,b',rfl,k3⟩:=hu
  obtain ⟨s1,s2,s3,s4⟩:=eP hr k2 (some ⟨b',k,some 0⟩) e
  refine ⟨_,_,_,_,rfl,s1,?_⟩
  simp only[d7]
  refine ⟨k1,s2,b',?_,k3⟩
  split<;>rfl
 |gr s o m=>
  simp only[aC] at h
  split at h
  ·cases h
  rename_i hm
  rw[j7] at hm
  simp only[Option.map_eq_some_iff] at h
  obtain ⟨r,hr,rfl⟩:=h
  simp only[d7] at hu
  rcases hu with ⟨k1,⟨rfl,_⟩|⟨_,b',rfl,k3⟩⟩
  ·exact absurd rfl hm
  have hc:F8 m (t8+m):=by unfold F8;rw[J0 (by omega)];omega
  obtain ⟨s1,s2,s3,s4⟩:=eP hr hc (some ⟨b',0,some 0⟩) e
  refine ⟨_,_,_,_,rfl,s1,?_⟩
  simp only[d7]
  refine ⟨k1,s2,b',?_,k3⟩
  split
  ·rfl
  ·simp[A7]
 |sl s m l=>
  simp only[aC] at h
  split at h
  case isFalse=>cases h
  rename_i hok
  rw[Y2] at hok
  simp only[d7,A5] at hu
  have hk:∀ (s':Nat),(if Nat.beq s 0 then 0 else 3:Nat)=s'→s' ≠ 1∧s' ≠ 2∧(s ≠ 0→s' ≠ 0):=by
   intro s' e
   subst e
   by_cases hs:s=0
   ·rw[if_pos (j7.2 hs)];exact ⟨by omega,by omega,fun h=>absurd hs h⟩
   ·rw[if_neg (by rw[j7];exact hs)];exact ⟨by omega,by omega,fun _=>by omega⟩
  obtain ⟨hk1,hk2,hk3⟩:=hk _ rfl
  cases mx with
  |none=>
   simp only[Option.map_eq_some_iff] at h
   obtain ⟨⟨i,j⟩,hr,h⟩:=h
   cases h
   simp only[pY,Option.bind_eq_some_iff] at hr
   obtain ⟨j',hj,i',hi',hr⟩:=hr
   cases hr
   have hj2:=F7 hj (Nat.le_refl _)
   have hi2:=F7 hi' (Nat.zero_le _)
   rcases hu with ⟨a,c,rfl,k1,k2,k3,_⟩|⟨k1,rfl,rfl,rfl|⟨k2,_⟩⟩
   ·by_cases hend:¬ c<t8∧¬ i<c - t8∧i ≠ 0
    ·obtain ⟨hb,hl,h0⟩:=hend
     unfold F8 at k2
     have k2':=k2
     rw[J0 hb] at k2'
     have hi3:i=c - t8:=by omega
     have hj3:j=i:=by omega
     have hs:∃ a',slcA e (some a) m c lo hi none=some (.slice (some a') (j - i) (c - i))∧w.inF a':=by
      obtain ⟨ab,ao,asp⟩:=a
      cases asp with
      |none=>
       refine ⟨⟨ab,ao+i*e,none⟩,?_,trivial⟩
       simp only[slcA,(R8 hj k2 (Nat.le_refl _)).1,hi',Option.bind_some]
       rw[if_neg (by rw[Nat.blt_eq];exact hb),if_neg (by rw[Nat.blt_eq];exact hl),if_neg h0,if_pos (j7.2 hi3)]
      |some q=>
       refine ⟨⟨ab,ao,some (q+i*e)⟩,?_,k1⟩
       simp only[slcA,(R8 hj k2 (Nat.le_refl _)).1,hi',Option.bind_some]
       rw[if_neg (by rw[Nat.blt_eq];exact hb),if_neg (by rw[Nat.blt_eq];exact hl),if_neg h0,if_pos (j7.2 hi3)]
     obtain ⟨a',hs1,hs2⟩:=hs
     refine ⟨_,_,_,_,rfl,hs1,?_⟩
     simp only[d7,A5]
     left
     refine ⟨a',_,rfl,hs2,?_,?_,fun e=>absurd e hk2⟩
     ·unfold F8
      rw[J0 (by omega)]
      omega
     ·rw[jO _ _ _ (by rw[hj3];exact Nat.le_refl _)];exact .nil _
    have hN:pX m c lo hi none=some (i,j,(if i=0∧¬ c<t8∧¬ (0<c - t8) then c else c - i),if c<t8 then Nat.beq c i else if i<c - t8 then false else true):=by
     unfold F8 at k2
     simp only[pX,(R8 hj k2 (Nat.le_refl _)).1,hi',Option.bind_some]
     by_cases hb:c<t8
     ·rw[if_pos (by rw[Nat.blt_eq];exact hb),if_pos hb,if_neg (by omega)]
     ·rw[if_neg (by rw[Nat.blt_eq];exact hb),if_neg hb]
      rw[J0 hb] at k2
      by_cases hl:i<c - t8
      ·rw[if_pos (by rw[Nat.blt_eq];exact hl),if_pos hl,if_neg (by omega)]
      ·rw[if_neg (by rw[Nat.blt_eq];exact hl),if_neg hl]
       have h0:i=0:=Decidable.byContradiction fun h0=>hend ⟨hb,hl,h0⟩
       rw[if_pos (j7.2 h0),if_pos ⟨h0,hb,by omega⟩]
       rw[h0]
    obtain ⟨s1,s2,s3,s4⟩:=eP hN k2 (some a) e
    simp only at s1 s2 s3 s4
    refine ⟨_,_,_,_,rfl,s1,?_⟩
    simp only[d7,A5]
    left
    generalize hfl:(if c<t8 then Nat.beq c i else if i<c - t8 then false else true)=fl at s3 s1 ⊢
    cases fl with
    |true=>
     refine ⟨a,_,rfl,k1,s2,?_,fun e=>absurd e hk2⟩
     rcases s3 rfl with h0|⟨h0,_⟩
     ·subst h0;rw[Nat.zero_mul];exact k3.partD 0 _
     ·rw[jO _ _ _ (by rw[h0];exact Nat.le_refl _)];exact .nil _
    |false=>
     exact ⟨A7 a (i*e),_,rfl,jH k1,s2,k3.partD _ _,fun e=>absurd e hk2⟩
   ·have hj0:j=0:=by omega
    have hi0:i=0:=by omega
    subst hj0 hi0
    refine ⟨none,0,0,.slice none 0 0,rfl,?_,?_⟩
    ·have:y8 0=0:=rfl
     simp only[slcA,this,hj,hi',Option.bind_some]
     rfl
    ·simp only[d7,A5]
     right
     exact ⟨hk3 k1,by simp,hS _ _,.inl (by trivial)⟩
   ·exfalso;omega
  |some mv=>
   simp only[Option.bind_eq_some_iff] at h
   obtain ⟨q,hq,h⟩:=h
   split at h
   case isFalse=>cases h
   rename_i hb
   simp only[Option.bind_eq_some_iff] at h
   obtain ⟨j,hj,i,hi',h⟩:=h
   cases h
   rcases hu with ⟨a,c,rfl,k1,k2,k3,_⟩|⟨k1,rfl,rfl,rfl|⟨k2,_⟩⟩
   ·have hN:pX m c lo hi (some mv)=some (i,j,q - i,Nat.beq q i):=by
     unfold F8 at k2
     simp only[pX,(R8 hq k2 (Nat.zero_le _)).1,Option.bind_some]
     rw[if_pos hb]
     simp only[hj,hi',Option.bind_some]
    obtain ⟨s1,s2,s3,s4⟩:=eP hN k2 (some a) e
    simp only at s1 s2 s3 s4
    refine ⟨_,_,_,_,rfl,s1,?_⟩
    simp only[Bool.and_eq_true,Nat.blt_eq] at hb
    have hcb:q - i<t8:=by omega
    simp only[d7]
    unfold F8 at s2
    rw[E0 hcb] at s2
    refine ⟨hcb,s2,.inl ?_⟩
    generalize hfl:Nat.beq q i=fl at s3 s1 ⊢
    cases fl with
    |true=>
     refine ⟨a,rfl,k1,?_⟩
     rcases s3 rfl with h0|⟨h0,_⟩
     ·subst h0;rw[Nat.zero_mul];exact k3.partD 0 _
     ·rw[jO _ _ _ (by rw[h0];exact Nat.le_refl _)];exact .nil _
    |false=>exact ⟨A7 a (i*e),rfl,jH k1,k3.partD _ _⟩
   ·have hq2:=F7 hq (Nat.zero_le _)
    have hN:pX 0 0 lo hi (some mv)=some (i,j,q - i,Nat.beq q i):=by
     have:y8 0=0:=rfl
     simp only[pX,this,hq,Option.bind_some]
     rw[if_pos hb]
     simp only[hj,hi',Option.bind_some]
    obtain ⟨s1,s2,s3,s4⟩:=eP hN (Nat.zero_le _) none e
    simp only at s1 s2 s3 s4
    have hcb:q - i<t8:=by unfold t8;omega
    unfold F8 at s2
    rw[E0 hcb] at s2
    refine ⟨none,0,0,_,rfl,s1,?_⟩
    simp only[d7]
    refine ⟨hcb,s2,.inr ⟨hk3 k1,by omega,by omega,hS _ _,?_⟩⟩
    have e1:j - i=0:=by omega
    have e2:q - i=0:=by omega
    rw[e1,e2]
    split<;>rfl
   ·exfalso;omega
 |slk s m c l=>
  simp only[aC] at h
  split at h
  case h_2=>cases h
  simp only[Option.map_eq_some_iff] at h
  obtain ⟨⟨i,j⟩,hr,rfl⟩:=h
  simp only[pY,Option.bind_eq_some_iff] at hr
  obtain ⟨j',hj,i',hi',hr⟩:=hr
  cases hr
  have hj2:=F7 hj (Nat.le_refl _)
  have hi2:=F7 hi' (Nat.zero_le _)
  simp only[d7] at hu
  obtain ⟨k1,k2,hu⟩:=hu
  have hN:pX m c lo hi none=some (i,j,c - i,Nat.beq c i):=by
   simp only[pX,E0 k1,(R8 hj k2 (Nat.le_refl _)).1,hi',Option.bind_some]
   rw[if_pos (by rw[Nat.blt_eq];exact k1)]
  have hcap:F8 m c:=by unfold F8;rw[E0 k1];exact k2
  rcases hu with ⟨a,rfl,q1,q2⟩|⟨q1,rfl,rfl,rfl,rfl⟩
  ·obtain ⟨s1,s2,s3,s4⟩:=eP hN hcap (some a) e
   simp only at s1 s2 s3 s4
   refine ⟨_,_,_,_,rfl,s1,?_⟩
   have hcb:c - i<t8:=by omega
   unfold F8 at s2
   rw[E0 hcb] at s2
   simp only[d7]
   refine ⟨hcb,s2,.inl ?_⟩
   generalize hfl:Nat.beq c i=fl at s3 s1 ⊢
   cases fl with
   |true=>
    refine ⟨a,rfl,q1,?_⟩
    rcases s3 rfl with h0|⟨h0,_⟩
    ·subst h0;rw[Nat.zero_mul];exact q2.partD 0 _
    ·rw[jO _ _ _ (by rw[h0];exact Nat.le_refl _)];exact .nil _
   |false=>exact ⟨A7 a (i*e),rfl,jH q1,q2.partD _ _⟩
  ·obtain ⟨s1,s2,s3,s4⟩:=eP hN hcap none e
   simp only at s1 s2 s3 s4
   refine ⟨none,0,0,_,rfl,s1,?_⟩
   have hcb:0 - i<t8:=by unfold t8;omega
   unfold F8 at s2
   rw[E0 hcb] at s2
   simp only[d7]
   refine ⟨hcb,s2,.inr ⟨q1,by omega,by omega,hS _ _,?_⟩⟩
   have e1:j - i=0:=by omega
   have e2:0 - i=0:=by omega
   rw[e1,e2]
   split<;>rfl
 |sc x=>
  have hx:=hu.ok
  have:=hu.scv
  subst this
  cases uI with
  |slice a m c=>
   cases a with
   |some a=>simp[aC] at h
   |none=>
    simp only[D5,Bool.and_eq_true,j7] at hx
    obtain ⟨rfl,rfl⟩:=hx
    have hk:y8 0=0:=rfl
    refine ⟨none,0,0,.slice none 0 0,rfl,?_,?_⟩
    ·simp only[aC] at h
     cases mx with
     |none=>
      simp only[Option.map_eq_some_iff,pY,Option.bind_eq_some_iff] at h
      obtain ⟨_,⟨j,hj,i,hi',_⟩,_⟩:=h
      have hj2:=F7 hj (Nat.le_refl _)
      have hi2:=F7 hi' (Nat.zero_le _)
      have hi0:i=0:=by omega
      have hj0:j=0:=by omega
      subst hi0 hj0
      simp only[slcA,hk,hj,hi',Option.bind_some]
      rfl
     |some mv=>
      simp only[Option.bind_eq_some_iff] at h
      obtain ⟨q,hq,h⟩:=h
      split at h
      case isFalse=>cases h
      rename_i hhi
      simp only[Option.map_eq_some_iff,pY,Option.bind_eq_some_iff] at h
      obtain ⟨_,⟨j,hj,i,hi',_⟩,_⟩:=h
      have hq2:=F7 hq (Nat.le_refl _)
      have hj2:=F7 hj (Nat.le_refl _)
      have hi2:=F7 hi' (Nat.zero_le _)
      have hi0:i=0:=by omega
      have hj0:j=0:=by omega
      have hq0:q=0:=by omega
      subst hi0 hj0 hq0
      simp only[slcA,hk,hq,Option.bind_some]
      rw[if_pos (by rw[hhi];rfl)]
      simp only[hj,hi',Option.bind_some]
      rfl
    ·simp only[aC] at h
     have:v= .sc (.slice none 0 0):=by
      cases mx with
      |none=>simp only[Option.map_eq_some_iff] at h;obtain ⟨_,_,rfl⟩:=h;rfl
      |some mv=>
       simp only[Option.bind_eq_some_iff] at h
       obtain ⟨q,hq,h⟩:=h
       split at h
       case isFalse=>cases h
       simp only[Option.map_eq_some_iff] at h;obtain ⟨_,_,rfl⟩:=h;rfl
     subst this
     exact .mksc rfl
  |_=>simp[aC] at h
 |_=>simp[aC] at h
theorem bK1 (hf:FR w fr frI) {e:Nat} {x:Operand} {lo hi mx:Option Operand} (h:K6 E H w fr (.slc e x lo hi mx) v ob fz):J3 E heap w frI n p (.slc e x lo hi mx) v ob fz:=by
 simp only[K6,i6,Option.bind_eq_some_iff] at h
 obtain ⟨a,h1,lo',h2,hi',h3,mx',h4,h⟩:=h
 obtain ⟨h0,rfl,rfl⟩:=P4 h;replace h:=h0
 obtain ⟨aI,a1,a2⟩:=m6 hf h1
 obtain ⟨ad,m,c,vI,rfl,e1,e2⟩:=VC a2 h
 exact ⟨vI,[],by simp[d6,a1,eY hf h2,eY hf h3,eY hf h4,e1],.pure e2⟩
theorem aX7 (hf:FR w fr frI) {m e:Nat} {x:Operand} {lo hi:Option Operand} (h:K6 E H w fr (.slcA m e x lo hi) v ob fz):J3 E heap w frI n p (.slcA m e x lo hi) v ob fz:=by
 simp only[K6,i6,Option.bind_eq_some_iff] at h
 obtain ⟨a,h1,lo',h2,hi',h3,h⟩:=h
 obtain ⟨aI,a1,a2⟩:=m6 hf h1
 split at h
 case h_2=>cases h
 rename_i o k
 split at h
 case isFalse=>cases h
 rename_i hb
 obtain ⟨h0,rfl,rfl⟩:=P4 h;replace h:=h0
 simp only[d7] at a2
 obtain ⟨k1,b',rfl,k2⟩:=a2
 have hb':=hb
 rw[Nat.blt_eq] at hb'
 have hu:d7 w (.ref o k m m) (.slice (some ⟨b',k,some 0⟩) m m):=by
  simp only[d7]
  exact ⟨k1,lE hb',b',rfl,k2⟩
 obtain ⟨ad,m',c,vI,e0,e1,e2⟩:=VC hu h
 cases e0
 refine ⟨vI,[],?_,.pure e2⟩
 simp only[d6,a1,eY hf h2,eY hf h3,Option.bind_some]
 rw[if_pos hb,e1]
 rfl
end
end Go.Itp
