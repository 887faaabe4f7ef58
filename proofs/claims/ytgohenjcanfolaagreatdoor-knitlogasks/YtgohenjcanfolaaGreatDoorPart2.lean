/- What is proved: the law KnitlogAsks returns true for every input.
   Texts: Draw5, DrawW, DrawW2, DrawW3, DrawW4, RunA, RunB, Run, Gc, Srt, Call, Law, Prims, Walk, Sym, Walk2, Walk3, Walk4, V1, V2, V3, V4, V5, V6, V7.
-/
import Derived.Test.YtgohenjcanfolaaGreatDoorPart1
import Derived.Sort.Row
import Derived.Sort.Grow
import Derived.Laws.StandIn
import Derived.Lib.MakeNoZero
namespace Go.Itp
open Go.RowKit (Below)
set_option linter.unusedSimpArgs false
variable {P:Program} {E:G3} {G:A7} {s s':St} {w ws w':World} {o:Oper} {a:Act} {fr fr':Fr} {v c:Value} {bs:List A0} {N:Nat}
variable {s0:St} {al:List l5} {A:List (List Nat)} {m:Nat} {fr0:Fr} {T:Nat->Tr} {ops:Array Oper} {μ μ0 μ':Mu} {ds0:List Deferred} {l:Array Bool}
theorem ZY (hT:jO E s0 al A m fr0 T) {k:Nat} {x:l5} (hk:k<m) (hx:al[k]? =some x) (h:mI x.op=false):(T k).bs= []:=by
 obtain ⟨b,_,h1,h2⟩:=hT.at_ k x hk hx
 cases b
 ·exact (h2 rfl).2
 ·exact FE h (h1 rfl)
theorem oD (A:List (List Nat)) (al:List l5) (i:Nat):
  (aV A al i= []/\∀ k,k<i->k ∈ (A[i]?).getD []\/∀ x,al[k]? =some x->mI x.op=false)\/aV A al i=bU ((A[i]?).getD []) i:=by
 unfold aV
 split
 ·rename_i h
  left
  refine ⟨rfl,fun k hk=>?_⟩
  simp only[bB3,List.mem_range] at h
  have:=h k hk
  rw[cW5] at this
  rcases this with h1|h1
  ·exact .inl (kG.1 h1)
  ·right
   intro x hx
   rw[y7,hx] at h1
   simpa using h1
 ·right
  rw[y7]
theorem J.le0 (h:J P N G ops al m fr0 s0 μ0 ws ds0 T l a w μ) (hr:G5 G μ0 s0 ws):Mu.le μ0 μ:=fun j q e=>by
 have hj:j<s0.next:=by
  rcases cL3 j s0.next with h'|h'
  ·exact h'
  ·rw[hr.dom j h'] at e;cases e
 rw[h.low j hj];exact e
theorem J.leCut (h:J P N G ops al m fr0 s0 μ0 ws ds0 T l a w μ) (hr:G5 G μ0 s0 ws) {n:Nat} (hn:s0.next<=n):Mu.le μ0 (cut μ n):=fun j q e=>by
 have hj:j<s0.next:=by
  rcases cL3 j s0.next with h'|h'
  ·exact h'
  ·rw[hr.dom j h'] at e;cases e
 unfold cut
 rw[aO9 (by omega),h.low j hj];exact e
theorem cV2 {ro:Option Nat} (hE:v8 P E G.w0 μ0) (S:Q9 P N ops al A m) (hT:jO E s0 al A m fr0 T) (hr:G5 G μ0 s0 ws) {Q:Exit->Act->World->Prop}
  (h8:L5 E (al.drop m) (T m).fr ⟨l6 s0.heap (iR T m) [],(T m).n,s0.prot⟩=some (fr',s')) (hQ:pY G N s0 μ0 ds0 fr' s' (Q .normal)):
  ∀ (fuel:Nat) (l:Array Bool) (a:Act) (w:World) (μ:Mu),J P N G ops al m fr0 s0 μ0 ws ds0 T l a w μ->GG l ops.size<=fuel->wpAnyIn (FW ro) 0 P .any ops Q fuel l a w:=by
 have hs:m<=al.length:=by rw[S.len];exact S.mle
 intro fuel
 induction fuel with
 |zero=>
  intro l a w μ h hc
  by_cases hm:m=0
  ·subst hm
   have hn:ops.size=0:=by
    have:=LY (l:=l) 0 ops.size fun i _ hi=>h.pre i (by omega)
    omega
   have h9:=h.rep hT hr (i:=0) (aQ5 _) (mask:= []) (L:= []) (.inl rfl) (fun k hk=>by omega) G s0.prot rfl (hr.bp.trans (O1.of h.bs fun k hk=>hr.fxlt hk)) hr.le hr.pr
    (fun j b q hb hq hp=>by obtain ⟨q',q1,_,q3,_⟩:=hr.blk j b hb;rw[hq] at q1;cases q1;exact q3 hp) (.inl fun k hk=>hr.fxlt hk)
   rw[qK h.hi] at h9
   refine OO S 0 0 l (T 0).fr _ μ a w (hE.mono (h.le0 hr)) (aQ5 _) (by omega) h.sz (fun i hi=>by omega) (by omega) h8 ?_ h.tN h9 ?_
   ·intro t v' hv
    rw[hT.fr] at hv
    obtain ⟨c',c1,c2⟩:=h.fr0' t v' (fun k x hk=>by omega) hv
    exact ⟨c',c1,N1 (fun j q e=>by
     have hj:j<s0.next:=by
      rcases cL3 j s0.next with h'|h'
      ·exact h'
      ·rw[hr.dom j h'] at e;cases e
     rw[h.low j hj];exact e) _ c2⟩
   ·rw[h.df]
    intro μ2 a2 w2 ha
    exact hQ μ2 a2 w2 (Y9.trans ⟨fun j q e=>by
     have hj:j<s0.next:=by
      rcases cL3 j s0.next with h'|h'
      ·exact h'
      ·rw[hr.dom j h'] at e;cases e
     rw[h.low j hj];exact e,by simp only;rw[hT.n];exact aQ5 _,h.low⟩ ha)
  ·have:=xO (l:=l) ops.size (ops.size - 1) (by have:=S.mle;omega)
   have h6:∀ i,i<ops.size->E3 l i:=by
    intro i hi
    refine dI8 fun hd=>?_
    have:=xO (l:=l) ops.size i hi hd
    omega
   have gu:m=ops.size:=by
    rcases cL3 m ops.size with h'|h'
    ·exact absurd (h6 m h') (h.pre m (aQ5 _))
    ·have:=S.mle;omega
   exact pre_done hE S hT hr h8 hQ 0 l a w μ h (fun i hi=>h6 i (by omega)) (by omega)
 |succ fuel ih=>
  intro l a w μ h hc
  by_cases h6:∀ i,i<m->E3 l i
  ·exact pre_done hE S hT hr h8 hQ (fuel+1) l a w μ h h6 (by
    have:=LY (l:=l) m ops.size fun i hi _=>h.pre i hi
    omega)
  obtain ⟨i0,gv,g0⟩:∃ i,i<m/\¬ E3 l i:=by
   refine dI8 fun hn=>h6 fun i hi=>dI8 fun hd=>hn ⟨i,hi,hd⟩
  refine ⟨fun g9=>absurd (yH S h.sz g9 i0 (by have:=S.mle;omega)) g0,fun i hi=>?_⟩
  obtain ⟨o,ho,h5,hg⟩:=(aE h.sz).1 hi
  have ht:i<ops.size:=by
   rcases cL3 i ops.size with h'|h'
   ·exact h'
   ·simp[cZ3 h'] at ho
  have h7:i<m:=by
   rcases cL3 i m with h'|h'
   ·exact h'
   ·exact absurd (R0 S h.cl i o ho hg i0 (S.tail i0 i h' ht (by omega))) g0
  obtain ⟨x,hx,ga⟩:=(Y4 _ _ _ S.res).2 i o (by simpa using ho)
  obtain ⟨g1,g2,g3,g4⟩:=cL ga
  have hf:=h.frame S hT hr h7 ho h5 hg hx
  obtain ⟨b,hb,gb,gc⟩:=hT.at_ i x h7 hx
  have hw:=nQ hf g1 hb
  have hl:=hT.ds i (by omega)
  have gd:=hT.ns i h7
  have gf:i<l.size:=by rw[h.sz];exact ht
  have g6:GG (l.setIfInBounds i true) ops.size<=fuel:=by
   have:=(LZ gf h5 ops.size).1 ht
   omega
  have gg:G5 (AA G.w0 w (T i).n) (cut μ (T i).n) ⟨l6 s0.heap (iR T i) (aV A al i),(T i).n,(T i).n⟩ w:=by
   refine h.rep hT hr (by omega) (mask:=aV A al i) (L:=(A[i]?).getD []) ?_ ?_ (AA G.w0 w (T i).n) (T i).n rfl (O1.refl _ _) ?_ rfl ?_ (.inr (aQ5 _))
   ·rcases oD A al i with ⟨h1,_⟩|h1
    ·exact .inl h1
    ·exact .inr h1
   ·intro k hk gh g7
    have g8:k ∈ (A[i]?).getD []->E3 l k:=fun hm=>R0 S h.cl i o ho hg k hm
    rcases oD A al i with ⟨h1,h2⟩|h1
    ·rcases h2 k hk with h3|h3
     ·exact g8 h3
     ·obtain ⟨y,hy⟩:∃ y,al[k]? =some y:=⟨al[k]'(by omega),by simp[show k<al.length by omega]⟩
      exact absurd (ZY hT (by omega) hy (h3 y hy)) g7
    ·rcases gh with h2|h2
     ·rw[h1] at h2
      cases i with
      |zero=>omega
      |succ i=>simp[bU] at h2
     ·exact g8 h2
   ·have:=hr.size0;have:=h.bs.size;show G.w0.heap.size<=w.heap.size;omega
   ·intro j b q hb hq hp
    have:=hr.ltg hb
    have h0:=hT.mono i 0 (by omega) (by omega)
    rw[hT.n] at h0
    omega
  unfold wpOpIn
  simp only[ho,hw]
  cases b
  ·simp only[cS5,if_false]
   obtain ⟨hv,hu⟩:=gc rfl
   have e:(T (i+1)).n=(T i).n:=by rw[gd,hu];simp
   refine ⟨fun f _=>jZ ro f,ih _ _ _ _ (h.step S hT h7 ho h5 hg hx g2 g3 (μ':=cut μ (T i).n) (w':=w) (c:=undef) (fun j hj=>aO9 hj) (fun j hj=>aQ4 (by omega)) (by rw[hv];rfl) (Below.refl _ _) (fun idx b hb=>by rw[hu] at hb;simp at hb) (fun idx idx' b b' q q' hb=>by rw[hu] at hb;simp at hb)) g6⟩
  ·simp only[if_true]
   have hh:=gb rfl
   rw[hl] at hh
   rcases g4 with ⟨g4,g5⟩|g4
   ·rw[g4] at hh
    refine jE hf gg (hE.mono (h.leCut hr (by rw[<- hT.n];exact hT.mono i 0 (by omega) (by omega)))) g5 hh ro _ Q fun c w' ⟨μ',m1,m2,m3,m4⟩=>?_
    have B0:∀ idx b,(T i).bs[idx]? =some b->i7 (St.push ⟨l6 s0.heap (iR T i) (aV A al i),(T i).n,(T i).n⟩ (T i).bs).heap ((T i).n+idx)=some b:=by
     intro idx b hb
     simp only[St.push]
     rw[B3,aO9 ⟨by omega,by have:=NA hb;omega⟩,show (T i).n+idx - (T i).n=idx by omega]
     exact hb
    refine ih _ _ _ _ (h.step S hT h7 ho h5 hg hx g2 g3 (μ':=μ') (w':=w') (c:=c) (fun j hj=>?_) (fun j hj=>?_) m2 m4 (fun idx b hb=>?_) (fun idx idx' b b' q q' hb gi g7 hq gj=>?_)) g6
    ·rw[m1.ag j hj];exact aO9 hj
    ·exact m3.dom j (by simp only[St.push];omega)
    ·obtain ⟨q,q1,_,q3,q4⟩:=m3.blk _ _ (B0 idx b hb)
     exact ⟨q,q1,Nat.le_of_not_lt (q3 (by simp only[St.push];omega)),q4⟩
    ·exact m3.sep _ _ b b' q q' (B0 idx b hb) (B0 idx' b' gi) (by omega) hq gj
   ·rw[g4] at hh
    simp[d9] at hh
where
 pre_done {ro:Option Nat} (hE:v8 P E G.w0 μ0) (S:Q9 P N ops al A m) (hT:jO E s0 al A m fr0 T) (hr:G5 G μ0 s0 ws) {Q:Exit->Act->World->Prop}
   (h8:L5 E (al.drop m) (T m).fr ⟨l6 s0.heap (iR T m) [],(T m).n,s0.prot⟩=some (fr',s')) (hQ:pY G N s0 μ0 ds0 fr' s' (Q .normal))
   (fuel:Nat) (l:Array Bool) (a:Act) (w:World) (μ:Mu) (h:J P N G ops al m fr0 s0 μ0 ws ds0 T l a w μ) (h6:∀ i,i<m->E3 l i) (hf:ops.size - m<=fuel):wpAnyIn (FW ro) 0 P .any ops Q fuel l a w:=by
  have hs:m<=al.length:=by rw[S.len];exact S.mle
  have gk:s0.next<=(T m).n:=by rw[<- hT.n];exact hT.mono m 0 (by omega) (aQ5 _)
  have hz:Mu.le μ0 μ:=fun j q e=>by
   have hj:j<s0.next:=by
    rcases cL3 j s0.next with h'|h'
    ·exact h'
    ·rw[hr.dom j h'] at e;cases e
   rw[h.low j hj];exact e
  have h9:=h.rep hT hr (i:=m) (aQ5 _) (mask:= []) (L:= []) (.inl rfl) (fun k hk _ _=>h6 k hk) G s0.prot rfl (hr.bp.trans (O1.of h.bs fun k hk=>hr.fxlt hk)) hr.le hr.pr
   (fun j b q hb hq hp=>by obtain ⟨q',q1,_,q3,_⟩:=hr.blk j b hb;rw[hq] at q1;cases q1;exact q3 hp) (.inl fun k hk=>hr.fxlt hk)
  rw[qK h.hi] at h9
  have gl:∀ n,Mu.le (cut μ n) μ:=fun n j q e=>by
   unfold cut at e
   split at e
   ·exact e
   ·cases e
  refine OO S fuel m l (T m).fr _ μ a w (hE.mono hz) (aQ5 _) S.mle h.sz (fun i hi=>⟨fun hd=>?_,fun h7=>h6 i h7⟩) hf h8 ?_ h.tN h9 ?_
  ·rcases cL3 i m with h'|h'
   ·exact h'
   ·exact absurd hd (h.pre i h')
  ·intro t v' hv
   rcases hT.get hs S.uniq t m (aQ5 _) with ⟨k,y,h1,h2,h3,h4⟩|⟨h1,h2⟩
   ·rw[h4] at hv
    cases hv
    obtain ⟨c',c1,c2⟩:=h.fr1 k y t h1 h2 h3 (h6 k h1)
    exact ⟨c',c1,N1 (gl _) _ c2⟩
   ·rw[h2] at hv
    obtain ⟨c',c1,c2⟩:=h.fr0' t v' (fun k y hk hy gm=>absurd gm (h1 k y hk hy)) hv
    exact ⟨c',c1,N1 hz _ c2⟩
  ·rw[h.df]
   intro μ2 a2 w2 ha
   exact hQ μ2 a2 w2 (Y9.trans ⟨hz,gk,h.low⟩ ha)
theorem AH (n i:Nat):(Array.replicate n false).getD i false=false:=by
 simp only[Array.getD]
 split<;>simp
theorem cA5 {ro:Option Nat} {id:Nat} {ops:Array Oper} {k:List Nat} {ac:AC} (hc:qI P N ops.toList m k=some ac) {fr:Fr} {s:St} {μ:Mu} {a:Act} {w:World} {Q:Exit->Act->World->Prop} {ex:Ex}
  (hE:v8 P E G.w0 μ) (he:C7 E ac fr s=some (ex,fr',s')) (hf:J4 μ fr a.tmps) (hN:a.tmps.size=N) (hr:G5 G μ s w) (hQ:pY G N s μ a.defers fr' s' (Q .normal)):ex= .normal/\(Code.region id ops true).wpIn (FW ro) 0 P Q a w:=by
 simp only[qI,aG3] at hc
 obtain ⟨al,gn,hc⟩:=hc
 split at hc
 case isFalse=>cases hc
 rename_i go
 cases hc
 have S:=JX gn go
 simp only[C7,aG3,aG4] at he
 obtain ⟨⟨fr1,ds1,n1⟩,h1,⟨fr2,s2⟩,h2,e⟩:=he
 simp only[aS6] at e
 obtain ⟨rfl,rfl,rfl⟩:=e
 refine ⟨rfl,?_⟩
 obtain ⟨T,t1,t2,t3,t4,t5,t6,t7⟩:=rT s _ _ _ _ _ _ _ _ h1
 have hs:m<=al.length:=by rw[S.len];exact S.mle
 have gp:(al.take m).length=m:=by simp;omega
 rw[gp] at t5 t6 t7
 have i7:∀ i x,i<m->al[i]? =some x->(al.take m)[i]? =some x:=fun i x hi hx=>by rw[dC5,aO9 hi];exact hx
 have gq:∀ i,i<m->((((List.range m).map (aV (fF ops.toList []) al))[i]?).getD [])=aV (fF ops.toList []) al i:=fun i hi=>by simp[hi]
 have hl:∀ i,i<=m->(T i).ds=iR T i:=by
  intro i
  induction i with
  |zero=>intro _;rw[t2];rfl
  |succ i ih=>
   intro hi
   obtain ⟨x,hx⟩:∃ x,al[i]? =some x:=⟨al[i]'(by omega),by simp[show i<al.length by omega]⟩
   rw[(t4 i x (i7 i x (by omega) hx)).2.2.1,ih (by omega)]
   rfl
 have hT:jO E s al (fF ops.toList []) m fr T:=by
  refine ⟨t1,t3,fun i x hi hx=>?_,fun i x hi hx=>(t4 i x (i7 i x hi hx)).2.1,fun i hi=>?_,hl⟩
  ·have:=(t4 i x (i7 i x hi hx)).1
   rw[gq i hi] at this
   exact this
  ·obtain ⟨x,hx⟩:∃ x,al[i]? =some x:=⟨al[i]'(by omega),by simp[show i<al.length by omega]⟩
   exact (t4 i x (i7 i x hi hx)).2.2.2
 refine wpIn_region_any hE.mix ?_
 have gr:G5 G μ s {w with drawn:=w.drawn+1}:=hr.drew
 refine cV2 hE S hT gr (ds0:=a.defers) (fr':=fr2) (s':=s2) ?_ (fun μ2 a2 w2 ha gs=>hQ μ2 a2 w2 ha (gs.keep k)) ops.size _ a _ μ ?_ ?_
 ·rw[t5,t7,<- hl m (aQ5 _),t6]
  exact h2
 ·have h5:∀ i,¬ E3 (Array.replicate ops.size false) i:=fun i hd=>by unfold E3 at hd;rw[AH] at hd;cases hd
  refine ⟨by simp,fun i o ho hd=>absurd hd (h5 i),fun i _=>h5 i,hN,rfl,fun k x t _ _ _ hd=>absurd hd (h5 k),fun t v _ hv=>hf t v hv,Below.refl _ _,fun j _=>rfl,fun k hk _ j h1 _=>?_,fun j hj=>?_,fun k _ hd=>absurd hd (h5 k),fun k k' _ _ hd=>absurd hd (h5 k)⟩
  ·have:=hT.mono k 0 (by omega) (by omega)
   rw[hT.n] at this
   exact hr.dom j (by omega)
  ·have:=hT.mono m 0 (by omega) (aQ5 _)
   rw[hT.n] at this
   exact hr.dom j (by omega)
 ·have:∀ n,GG (Array.replicate ops.size false) n<=n:=by
   intro n
   induction n with
   |zero=>simp[GG]
   |succ n ih=>simp only[GG];split<;>omega
  exact this _
end Go.Itp
namespace Go.Itp
open Go.RowKit (Below)
set_option linter.unusedSimpArgs false
variable {P:Program} {E:G3} {G:A7} {s s':St} {w ws w':World} {o:Oper} {a:Act} {fr fr':Fr} {v c:Value} {bs:List A0} {N:Nat}
theorem eD {i:Nat} {l:List Nat}:p5 i l=false↔i ∉ l:=by
 rw[<- m7];simp
theorem A2 (l:List Nat) (d:Nat):∀ (h:o7),i7 (D8 l h) d=if p5 d l then i7 h d else none
 | []=>by simp[D8,i7]
 |(j,b)::r=>by
  simp only[D8]
  by_cases hj:d=j
  ·subst hj
   cases he:p5 d l
   ·simp only[cS5,if_false]
    rw[A2 l d r,he];simp
   ·simp only[if_true]
    rw[p7,p7];simp
  ·cases he:p5 j l
   ·simp only[cS5,if_false]
    rw[A2 l d r,p7,aQ4 hj]
   ·simp only[if_true]
    rw[p7,p7,aQ4 hj,A2 l d r]
    simp only[aQ4 hj]
theorem O4 (l:List Nat) (d:Nat):∀ (h:o7),i7 (eC l h) d=if p5 d l then none else i7 h d
 | []=>by simp[eC,i7]
 |(j,b)::r=>by
  simp only[eC]
  by_cases hj:d=j
  ·subst hj
   cases he:p5 d l
   ·simp only[cS5,if_false]
    rw[p7,p7];simp
   ·simp only[if_true]
    rw[O4 l d r,he];simp
  ·cases he:p5 j l
   ·simp only[cS5,if_false]
    rw[p7,p7,aQ4 hj,O4 l d r]
    simp only[aQ4 hj]
   ·simp only[if_true]
    rw[O4 l d r,p7,aQ4 hj]
theorem bJ (d:Nat) (g:o7):∀ (h:o7),i7 (h++g) d=match i7 h d with|some b=>some b|none=>i7 g d
 | []=>by simp[i7]
 |(j,b)::r=>by
  rw[dI5,p7,p7]
  by_cases hj:d=j
  ·simp[hj]
  ·rw[aQ4 hj,aQ4 hj,bJ d g r]
theorem qX (d:Nat):∀ (h:o7),tQ h d=(i7 h d).isSome
 | []=>rfl
 |(j,b)::r=>by
  rw[p7]
  simp only[tQ]
  by_cases hj:d=j
  ·rw[aO9 (j9.2 hj),aO9 hj];rfl
  ·rw[aQ4 (by rw[j9];exact hj),aQ4 hj,qX d r]
theorem Y0 {h:o7} {d:Nat} (hd:d ∉ h.map (·.1)):i7 h d=none:=by
 cases e:i7 h d with
 |none=>rfl
 |some b=>exact absurd (U4 _ _ _ e) hd
theorem bL8 {h:o7} {d:Nat} (hd:d ∈ h.map (·.1)):∃ b,i7 h d=some b:=by
 induction h with
 |nil=>simp at hd
 |cons x r ih=>
  obtain ⟨j,b⟩:=x
  rw[p7]
  by_cases hj:d=j
  ·exact ⟨b,by rw[aO9 hj]⟩
  ·rw[aQ4 hj]
   simp only[cJ1,bX5] at hd
   exact ih (hd.resolve_left hj)
theorem dK (i:Nat):∀ (h:o7) (d:Nat),d ∈ (kW i h).map (·.1)->d ∈ h.map (·.1)/\d ≠ i
 | [],d,hd=>by simp[kW] at hd
 |(j,b)::r,d,hd=>by
  simp only[kW] at hd
  split at hd
  ·obtain ⟨h1,h2⟩:=dK i r d hd
   exact ⟨by simp only[cJ1,bX5];exact .inr h1,h2⟩
  ·rename_i h0
   simp only[cJ1,bX5] at hd ⊢
   rcases hd with rfl|hd
   ·exact ⟨.inl rfl,fun e=>h0 (j9.2 e.symm)⟩
   ·obtain ⟨h1,h2⟩:=dK i r d hd
    exact ⟨.inr h1,h2⟩
theorem BD (i:Nat):∀ (h:o7),(h.map (·.1)).Nodup->((kW i h).map (·.1)).Nodup
 | [],_=>by simp[kW]
 |(j,b)::r,hn=>by
  simp only[cJ1,dK3] at hn
  simp only[kW]
  split
  ·exact BD i r hn.2
  ·simp only[cJ1,dK3]
   exact ⟨fun hm=>hn.1 (dK i r j hm).1,BD i r hn.2⟩
theorem pA (i d:Nat) (hd:d ≠ i):∀ (h:o7),i7 (kW i h) d=i7 h d
 | []=>rfl
 |(j,b)::r=>by
  simp only[kW]
  split
  ·rename_i h0
   rw[pA i d hd r,p7,aQ4 (by rw[<- j9.1 h0];exact hd)]
  ·rw[p7,p7,pA i d hd r]
theorem mX (n m:Nat) (v:o7):∀ (h:o7) (d:Nat),d ∈ (kS n m v h).map (·.1)->(n<=d/\d<m)\/tQ v d=true
 | [],d,hd=>by simp[kS] at hd
 |(j,b)::r,d,hd=>by
  simp only[kS] at hd
  split at hd
  ·rename_i hc
   simp only[cJ1,bX5] at hd
   rcases hd with rfl|hd
   ·rw[cW5,aO3,bA2,bA6] at hc
    exact hc
   ·exact mX n m v r d (dK _ _ _ hd).1
  ·exact mX n m v r d hd
theorem NM (n m:Nat) (v:o7):∀ (h:o7),((kS n m v h).map (·.1)).Nodup
 | []=>by simp[kS]
 |(j,b)::r=>by
  simp only[kS]
  split
  ·simp only[cJ1,dK3]
   exact ⟨fun hm=>(dK _ _ _ hm).2 rfl,BD _ _ (NM n m v r)⟩
  ·exact NM n m v r
theorem fO (n m:Nat) (v:o7) (d:Nat):∀ (h:o7),i7 (kS n m v h) d=if (n<=d/\d<m)\/tQ v d=true then i7 h d else none
 | []=>by simp[kS,i7]
 |(j,b)::r=>by
  have ih:=fO n m v d r
  simp only[kS]
  by_cases hj:d=j
  ·subst hj
   by_cases hc:(n<=d/\d<m)\/tQ v d=true
   ·rw[aO9 (by rw[cW5,aO3,bA2,bA6];exact hc),aO9 hc,p7,p7,aO9 rfl,aO9 rfl]
   ·rw[aQ4 (by rw[cW5,aO3,bA2,bA6];exact hc),aQ4 hc,ih,aQ4 hc]
  ·rw[p7,aQ4 hj]
   split
   ·rw[p7,aQ4 hj,pA _ _ hj,ih]
   ·exact ih
theorem nL (l:List Nat):∀ (h:o7),((D8 l h).map (·.1)).Sublist (h.map (·.1))
 | []=>by simp[D8]
 |(j,b)::r=>by
  simp only[D8]
  split
  ·simpa using (nL l r)
  ·exact (nL l r).trans (List.sublist_cons_self _ _)
theorem nK (l:List Nat):∀ (h:o7),((eC l h).map (·.1)).Sublist (h.map (·.1))
 | []=>by simp[eC]
 |(j,b)::r=>by
  simp only[eC]
  split
  ·exact (nK l r).trans (List.sublist_cons_self _ _)
  ·simpa using (nK l r)
theorem Z3 (V:VS) (h:o7) (d:Nat):i7 (G0 V h) d=if V.has d then i7 h d else none:=by
 cases V with
 |only l=>simp only[G0,VS.has];exact A2 l d h
 |but l=>
  simp only[G0,VS.has]
  rw[O4]
  by_cases he:p5 d l=true
  ·simp[he]
  ·simp[he]
theorem pB (V:VS) (h:o7) (d:Nat):i7 (mC V h) d=if V.has d then none else i7 h d:=by
 cases V with
 |only l=>simp only[mC,VS.has];exact O4 l d h
 |but l=>
  simp only[mC,VS.has]
  rw[A2]
  by_cases he:p5 d l=true
  ·simp[he]
  ·simp[he]
theorem aY3 (V:VS) (h:o7):((mC V h).map (·.1)).Sublist (h.map (·.1)):=by
 cases V with
 |only l=>exact nK l h
 |but l=>exact nL l h
theorem KC (V:VS) (h:o7):((G0 V h).map (·.1)).Sublist (h.map (·.1)):=by
 cases V with
 |only l=>exact nL l h
 |but l=>exact nK l h
theorem IA:∀ (h:o7),D8 [] h= []
 | []=>rfl
 |(j,b)::r=>by simp[D8,p5,IA r]
theorem tE:∀ (h:o7),eC [] h=h
 | []=>rfl
 |(j,b)::r=>by simp[eC,p5,tE r]
theorem dR:∀ (a b:List Nat),ON a b=true↔∀ x ∈ a,x ∈ b
 | [],b=>by simp[ON]
 |x::r,b=>by simp[ON,m7,dR r b]
theorem bG:∀ (a b:List Nat),RA a b=true↔∀ x ∈ a,x ∉ b
 | [],b=>by simp[RA]
 |x::r,b=>by
  simp only[RA,aO3,Bool.not_eq_eq_eq_not,dK1,eD,bG r b,bX5]
  constructor
  ·rintro ⟨h1,h2⟩ y (rfl|hy)
   ·exact h1
   ·exact h2 y hy
  ·intro h;exact ⟨h x (.inl rfl),fun y hy=>h y (.inr hy)⟩
theorem VS.has_only {l:List Nat} {d:Nat}:(VS.only l).has d=true↔d ∈ l:=m7 d l
theorem VS.has_but {l:List Nat} {d:Nat}:(VS.but l).has d=true↔d ∉ l:=by
 simp only[VS.has,Bool.not_eq_eq_eq_not,dK1];exact eD
theorem VS.dis_spec {a b:VS} (h:a.dis b=true) {d:Nat} (ha:a.has d=true) (hb:b.has d=true):False:=by
 cases a with
 |only x=>cases b with
  |only y=>exact (bG x y).1 h d (VS.has_only.1 ha) (VS.has_only.1 hb)
  |but y=>exact VS.has_but.1 hb ((dR x y).1 h d (VS.has_only.1 ha))
 |but x=>cases b with
  |only y=>exact VS.has_but.1 ha ((dR y x).1 h d (VS.has_only.1 hb))
  |but y=>cases h
theorem TX (lo hi:Nat):∀ (l:List Nat),eV lo hi l=true↔∀ x ∈ l,x<lo\/hi<=x
 | []=>by simp[eV]
 |x::r=>by simp[eV,TX lo hi r]
def NW.has:NW->Nat->Prop
 | .fix l,d=>d ∈ l
 | .rng lo hi,d=>lo<=d/\d<hi
theorem NW.out_spec {q:NW} {V:VS} (h:q.out V=true) {d:Nat} (hq:q.has d):V.has d=false:=by
 cases hv:V.has d
 ·rfl
 ·exfalso
  cases q with
  |fix l=>cases V with
   |only b=>exact (bG l b).1 h d hq (VS.has_only.1 hv)
   |but b=>exact VS.has_but.1 hv ((dR l b).1 h d hq)
  |rng lo hi=>cases V with
   |only b=>
    have:=(TX lo hi b).1 h d (VS.has_only.1 hv)
    simp only[NW.has] at hq
    omega
   |but b=>
    simp only[NW.out,cW5,aO3] at h
    simp only[NW.has] at hq
    rcases h with h|⟨h1,h2⟩
    ·have:=j9.1 h;omega
    ·have:=j9.1 h1
     have hd:d=lo:=by omega
     subst hd
     exact VS.has_but.1 hv ((m7 _ _).1 h2)
theorem TK:∀ (bs:List A0) (n d:Nat),n<=d->d<n+bs.length->d ∈ FD n bs
 | [],n,d,h1,h2=>by simp at h2;omega
 |b::r,n,d,h1,h2=>by
  simp only[FD,bX5]
  by_cases h:d=n
  ·exact .inl h
  ·exact .inr (TK r (n+1) d (by omega) (by simp at h2;omega))
structure TW where
 fr:Fr
 h:o7
 n:Nat
 v:Value
 r:K6
def wJ:K6:=⟨.only [],.only [],.fix []⟩
def Eff (E:G3) (p:Nat) (o:l5) (T T':TW):Prop:=
 (∃ bs,d9 E (u9 (r9 o) T.fr) ⟨G0 T.r.v T.h,T.n,T.n⟩ o.op=some (T.v,bs)/\T'.h=B0 T.h T.n bs/\T'.n=T.n+bs.length/\T.r.w= .only []/\T.r.nw= .fix (FD T.n bs))\/
 (∃ d s1 b,T.r.v= .only [d]/\T.r.w= .only [d]/\s7 E (u9 (r9 o) T.fr) ⟨G0 T.r.v T.h,T.n,p⟩ o.op=some (T.v,s1)/\s1.next=T.n/\i7 s1.heap d=some b/\T'.h=L6 T.h d b/\T'.n=T.n)\/
 (∃ s1,T.r.w=T.r.v/\T.r.nw= .rng T.n T'.n/\p<=T.n/\T.n<=T'.n/\s7 E (u9 (r9 o) T.fr) ⟨G0 T.r.v T.h,T.n,p⟩ o.op=some (T.v,s1)/\T'.n=s1.next/\T'.h=kS T.n T'.n (G0 T.r.v T.h) s1.heap++mC T.r.v T.h)
def aD7 (E:G3) (p:Nat) (x:sL) (rs:List K6) (T T':TW):Prop:=
 T'.fr=J0 T.fr x.o.dst T.v/\
 ∃ g,wanted (u9 (r9 x.o) T.fr) x.o.guard=some g/\(g=true->Eff E p x.o T T'/\wN rs T.r x.conc=true)/\(g=false->T.v= .tuple #[]/\T'.h=T.h/\T'.n=T.n/\T.r=wJ)
theorem BU {V:VS} {h h':o7} {n n':Nat} {r:Option (Value × List A0)} {q:K6} (e:oF V h n r=some (v,h',n',q)):∃ bs,r=some (v,bs)/\h'=B0 h n bs/\n'=n+bs.length/\q=⟨V,.only [],.fix (FD n bs)⟩:=by
 simp only[oF,aG4] at e
 obtain ⟨⟨u,bs⟩,h1,h2⟩:=e
 simp only[aS6] at h2
 obtain ⟨rfl,rfl,rfl,rfl⟩:=h2
 exact ⟨bs,h1,rfl,rfl,rfl⟩
theorem aC6 {op:M8} {V:VS} {f:Fr} {p:Nat} {h h':o7} {n n':Nat} {q:K6} (e:oK E f p op V h n=some (v,h',n',q)):
  (∃ bs,d9 E f ⟨G0 V h,n,n⟩ op=some (v,bs)/\h'=B0 h n bs/\n'=n+bs.length/\q=⟨V,.only [],.fix (FD n bs)⟩)\/
  (∃ s1,q=⟨V,V,.rng n n'⟩/\p<=n/\n<=n'/\s7 E f ⟨G0 V h,n,p⟩ op=some (v,s1)/\n'=s1.next/\h'=kS n n' (G0 V h) s1.heap++mC V h):=by
 unfold oK at e
 split at e
 ·rename_i r hr
  obtain ⟨bs,h1,h2,h3,h4⟩:=BU e
  cases h1
  exact .inl ⟨bs,hr,h2,h3,h4⟩
 ·split at e
  case isFalse=>cases e
  rename_i hp
  rw[bA2] at hp
  simp only[aG3] at e
  obtain ⟨⟨u,s1⟩,h1,h2⟩:=e
  simp only at h2
  split at h2
  case isFalse=>cases h2
  rename_i hn
  rw[bA2] at hn
  simp only[aJ7,aS6] at h2
  obtain ⟨rfl,rfl,rfl,rfl⟩:=h2
  exact .inr ⟨s1,rfl,hp,hn,h1,rfl,rfl⟩
theorem WN {op:M8} {a:Operand} {f:Fr} {p:Nat} {h h':o7} {n n':Nat} {q:K6} (e:pP E f p op a h n=some (v,h',n',q)):
  ∃ d s1 b,q=⟨.only [d],.only [d],.fix []⟩/\s7 E f ⟨D8 [d] h,n,p⟩ op=some (v,s1)/\s1.next=n/\i7 s1.heap d=some b/\h'=L6 h d b/\n'=n:=by
 simp only[pP,aG3] at e
 obtain ⟨u,_,e⟩:=e
 split at e
 ·simp only[aG3] at e
  obtain ⟨⟨v',s1⟩,h1,e⟩:=e
  simp only at e
  split at e
  case isFalse=>cases e
  rename_i hn
  simp only[aG4] at e
  obtain ⟨b,hb,e⟩:=e
  simp only[aS6] at e
  obtain ⟨rfl,rfl,rfl,rfl⟩:=e
  exact ⟨_,s1,b,rfl,h1,j9.1 hn,hb,rfl,rfl⟩
 ·cases e
theorem aY0 {x:sL} {rs:List K6} {fr0:Fr} {p:Nat} {T T':TW} (e:V2 E fr0 p x rs (u9 (r9 x.o) T.fr) T.h T.n=some (T.v,T'.h,T'.n,T.r)):Eff E p x.o T T':=by
 unfold V2 at e
 have pw:∀ (V:VS) (op:M8) (hh:o7),x.o.op=op->hh=G0 V T.h->oF V T.h T.n (d9 E (u9 (r9 x.o) T.fr) ⟨hh,T.n,T.n⟩ op)=some (T.v,T'.h,T'.n,T.r)->Eff E p x.o T T':=by
  intro V op hh ho hv e
  obtain ⟨bs,h1,h2,h3,h4⟩:=BU e
  refine .inl ⟨bs,?_,h2,h3,by rw[h4],by rw[h4]⟩
  rw[h4,ho,<- hv];exact h1
 have vw:∀ (V:VS) (op:M8),x.o.op=op->oK E (u9 (r9 x.o) T.fr) p op V T.h T.n=some (T.v,T'.h,T'.n,T.r)->Eff E p x.o T T':=by
  intro V op ho e
  rcases aC6 e with ⟨bs,h1,h2,h3,h4⟩|⟨s1,h1,h2,h3,h4,h5,h6⟩
  ·refine .inl ⟨bs,?_,h2,h3,by rw[h4],by rw[h4]⟩
   rw[h4,ho];exact h1
  ·refine .inr (.inr ⟨s1,by rw[h1],by rw[h1],h2,h3,?_,h5,by rw[h1];exact h6⟩)
   rw[h1,ho];exact h4
 split at e
 ·rename_i k q ho
  simp only[aG3] at e
  obtain ⟨u,_,e⟩:=e
  exact pw (.only (Z5 u)) _ _ ho rfl e
 ·rename_i k q u ho
  obtain ⟨d,s1,b,h1,h2,h3,h4,h5,h6⟩:=WN e
  refine .inr (.inl ⟨d,s1,b,by rw[h1],by rw[h1],?_,h3,h4,h5,h6⟩)
  rw[h1,ho];exact h2
 ·rename_i t u b y z ho
  simp only[aG3] at e
  obtain ⟨_,_,_,_,e⟩:=e
  exact vw _ _ ho e
 ·rename_i u y z ho
  simp only[aG3] at e
  obtain ⟨_,_,_,_,e⟩:=e
  exact vw _ _ ho e
 ·split at e
  ·exact pw (.only []) x.o.op _ rfl (IA T.h).symm e
  ·exact vw _ x.o.op rfl e
theorem CO (fr0:Fr) (p:Nat):∀ (pre:List sL) (rs:List K6) (fr:Fr) (h:o7) (n:Nat) (fr':Fr) (h':o7) (n':Nat),xG E fr0 p pre rs fr h n=some (fr',h',n')->
  ∃ T:Nat->TW,(T 0).fr=fr/\(T 0).h=h/\(T 0).n=n/\(∀ (i:Nat) (x:sL),pre[i]? =some x->aD7 E p x (rs++(List.range i).map fun k=>(T k).r) (T i) (T (i+1)))/\
   (T pre.length).fr=fr'/\(T pre.length).h=h'/\(T pre.length).n=n'
 | [],rs,fr,h,n,fr',h',n',e=>by
  simp[xG] at e
  obtain ⟨rfl,rfl,rfl⟩:=e
  exact ⟨fun _=>⟨fr,h,n,.nilIface,wJ⟩,rfl,rfl,rfl,fun i x h=>by simp at h,rfl,rfl,rfl⟩
 |x::l,rs,fr,h,n,fr',h',n',e=>by
  simp only[xG,aG3] at e
  obtain ⟨g,hg,e⟩:=e
  have key:∀ (v:Value) (h1:o7) (n1:Nat) (r:K6),(g=true->Eff E p x.o ⟨fr,h,n,v,r⟩ ⟨J0 fr x.o.dst v,h1,n1,v,r⟩/\wN rs r x.conc=true)->(g=false->v= .tuple #[]/\h1=h/\n1=n/\r=wJ)->
    xG E fr0 p l (rs++ [r]) (J0 fr x.o.dst v) h1 n1=some (fr',h',n')->
    ∃ T:Nat->TW,(T 0).fr=fr/\(T 0).h=h/\(T 0).n=n/\(∀ (i:Nat) (y:sL),(x::l)[i]? =some y->aD7 E p y (rs++(List.range i).map fun k=>(T k).r) (T i) (T (i+1)))/\
     (T (x::l).length).fr=fr'/\(T (x::l).length).h=h'/\(T (x::l).length).n=n':=by
   intro v h1 n1 r e1 e2 e3
   obtain ⟨T,t1,t2,t3,t4,t5,t6,t7⟩:=CO fr0 p l _ _ _ _ fr' h' n' e3
   refine ⟨fun i=>match i with|0=>⟨fr,h,n,v,r⟩|i+1=>T i,rfl,rfl,rfl,fun i y hy=>?_,t5,t6,t7⟩
   cases i with
   |zero=>
    simp at hy;subst hy
    refine ⟨t1,g,hg,fun h7=>⟨?_,by simpa using (e1 h7).2⟩,fun h8=>?_⟩
    ·have:=(e1 h7).1
     unfold Eff at this ⊢
     simp only[t2,t3] at this ⊢
     exact this
    ·obtain ⟨a1,a2,a3,a4⟩:=e2 h8
     exact ⟨a1,t2.trans a2,t3.trans a3,a4⟩
   |succ i=>
    simp at hy
    have:=t4 i y hy
    have e:(rs++ [r]++(List.range i).map fun k=>(T k).r)=rs++(List.range (i+1)).map fun k=>(match k with|0=>(⟨fr,h,n,v,r⟩:TW)|k+1=>T k).r:=by
     rw[List.range_succ_eq_map]
     simp only[cJ1,List.map_map,bL9]
     rfl
    rw[e] at this
    exact this
  cases g
  ·simp only at e
   exact key (.tuple #[]) h n wJ (fun e=>by cases e) (fun _=>⟨rfl,rfl,rfl,rfl⟩) e
  ·simp only[aG3] at e
   obtain ⟨⟨v,h1,n1,r⟩,e1,e⟩:=e
   simp only at e
   split at e
   case isFalse=>cases e
   rename_i h9
   exact key v h1 n1 r (fun _=>⟨aY0 (T:=⟨fr,h,n,v,r⟩) (T':=⟨J0 fr x.o.dst v,h1,n1,v,r⟩) e1,h9⟩) (fun e=>by cases e) e
end Go.Itp
namespace Go.Itp
open Go.RowKit (Below)
set_option linter.unusedSimpArgs false
variable {P:Program} {E:G3} {G:A7} {s s':St} {w ws w':World} {o:Oper} {a:Act} {fr fr':Fr} {v c:Value} {bs:List A0} {N:Nat}
variable {s0:St} {al:List l5} {A:List (List Nat)} {m:Nat} {fr0:Fr} {T:Nat->TW} {ops:Array Oper} {μ μ0 μ':Mu} {ds0:List Deferred} {l:Array Bool}
structure H6 (E:G3) (s0:St) (al:List l5) (A:List (List Nat)) (m:Nat) (fr0:Fr) (T:Nat->TW):Prop where
 fr:(T 0).fr=fr0
 h:(T 0).h=s0.heap
 n:(T 0).n=s0.next
 at_:∀ i x,i<m->al[i]? =some x->(T (i+1)).fr=J0 (T i).fr x.dst (T i).v/\
  ∃ g,wanted (u9 (r9 x) (T i).fr) x.guard=some g/\(g=true->Eff E s0.prot x (T i) (T (i+1)))/\(g=false->(T i).v= .tuple #[]/\(T (i+1)).h=(T i).h/\(T (i+1)).n=(T i).n/\(T i).r=wJ)
 ok:∀ i k,i<m->k<i->k ∉ (A[i]?).getD []->(T k).r.ok (T i).r=true
 len:m<=al.length
theorem cG (b:A0) (d i:Nat) (hd:d ≠ i):∀ (h:o7),i7 (L6 h i b) d=i7 h d
 | []=>rfl
 |(j,u)::r=>by
  simp only[L6]
  split
  ·rename_i h0
   have:=j9.1 h0
   rw[p7,p7,aQ4 (by omega),aQ4 (by omega)]
  ·rw[p7,p7,cG b d i hd r]
theorem kX {b b':A0} {d:Nat}:∀ (h:o7),i7 (L6 h d b) d=some b'->b'=b/\∃ c,i7 h d=some c
 | [],e=>by simp[L6,i7] at e
 |(j,u)::r,e=>by
  simp only[L6] at e
  split at e
  ·rename_i h0
   have:=j9.1 h0
   subst this
   rw[p7,aO9 rfl] at e
   cases e
   exact ⟨rfl,u,by rw[p7,aO9 rfl]⟩
  ·rename_i h0
   have h6:d ≠ j:=fun e=>h0 (j9.2 e)
   rw[p7,aQ4 h6] at e
   obtain ⟨h1,c,hc⟩:=kX r e
   exact ⟨h1,c,by rw[p7,aQ4 h6];exact hc⟩
theorem H6.cases (h:H6 E s0 al A m fr0 T) {i:Nat} (hi:i<m):(∃ x,al[i]? =some x/\Eff E s0.prot x (T i) (T (i+1)))\/((T (i+1)).h=(T i).h/\(T (i+1)).n=(T i).n/\(T i).r=wJ):=by
 have hl:=h.len
 obtain ⟨x,hx⟩:∃ x,al[i]? =some x:=⟨al[i]'(by omega),by simp[show i<al.length by omega]⟩
 obtain ⟨_,g,_,h1,h2⟩:=h.at_ i x hi hx
 cases g
 ·exact .inr (h2 rfl).2
 ·exact .inl ⟨x,hx,h1 rfl⟩
theorem H6.step_le (h:H6 E s0 al A m fr0 T) {i:Nat} (hi:i<m):(T i).n<=(T (i+1)).n:=by
 rcases h.cases hi with ⟨x,_,⟨bs,_,_,e,_⟩|⟨d,s1,b,_,_,_,_,_,_,e⟩|⟨s1,_,_,_,e,_⟩⟩|⟨_,e,_⟩<;>omega
theorem H6.mono (h:H6 E s0 al A m fr0 T):∀ j i,i<=j->j<=m->(T i).n<=(T j).n
 |0,i,h1,_=>by
  have e:i=0:=by omega
  rw[e];exact aQ5 _
 |j+1,i,h1,h2=>by
  by_cases hi:i=j+1
  ·subst hi;exact aQ5 _
  ·have:=h.mono j i (by omega) (by omega)
   have:=h.step_le (i:=j) (by omega)
   omega
theorem H6.keys (h:H6 E s0 al A m fr0 T) (hb:∀ i ∈ s0.heap.map (·.1),i<s0.next) (hn:(s0.heap.map (·.1)).Nodup):∀ i,i<=m->((T i).h.map (·.1)).Nodup/\∀ d ∈ (T i).h.map (·.1),d<(T i).n
 |0,_=>by rw[h.h,h.n];exact ⟨hn,hb⟩
 |i+1,hi=>by
  obtain ⟨h1,h2⟩:=h.keys hb hn i (by omega)
  have h8:=h.step_le (i:=i) (by omega)
  rcases h.cases (i:=i) (by omega) with ⟨x,_,⟨bs,_,e1,e2,_⟩|⟨d,s1,b,_,_,_,_,_,e1,e2⟩|⟨s1,_,_,_,_,_,e2,e1⟩⟩|⟨e1,e2,_⟩
  ·rw[e1,e2]
   refine ⟨rJ _ _ _ h1 h2,fun d hd=>?_⟩
   rcases iZ _ _ _ d hd with h3|h3
   ·have:=h2 d h3;omega
   ·omega
  ·rw[e1,e2,P8];exact ⟨h1,h2⟩
  ·rw[e1]
   have hv:∀ d,tQ (G0 (T i).r.v (T i).h) d=true->(T i).r.v.has d=true/\d<(T i).n:=by
    intro d hd
    rw[qX,Z3] at hd
    split at hd
    ·rename_i hh
     obtain ⟨b,h4⟩:=dJ5.1 hd
     exact ⟨hh,h2 d (U4 _ _ _ h4)⟩
    ·simp at hd
   have hk:∀ d,d ∈ (mC (T i).r.v (T i).h).map (·.1)->(T i).r.v.has d=false/\d<(T i).n:=by
    intro d hd
    obtain ⟨b,h4⟩:=bL8 hd
    rw[pB] at h4
    split at h4
    ·cases h4
    ·rename_i hh
     exact ⟨by simpa using hh,h2 d (U4 _ _ _ h4)⟩
   refine ⟨?_,fun d hd=>?_⟩
   ·rw[dK6,List.nodup_append]
    refine ⟨NM _ _ _ _,h1.sublist (aY3 _ _),fun x hx y hy hf=>?_⟩
    subst hf
    obtain ⟨k1,k2⟩:=hk x hy
    rcases mX _ _ _ _ x hx with h3|h3
    ·omega
    ·rw[(hv x h3).1] at k1;cases k1
   ·rw[dK6,cB1] at hd
    rcases hd with hd|hd
    ·rcases mX _ _ _ _ d hd with h3|h3
     ·omega
     ·have:=(hv d h3).2;omega
    ·have:=(hk d hd).2;omega
  ·rw[e1,e2];exact ⟨h1,h2⟩
theorem H6.unt (h:H6 E s0 al A m fr0 T) {i:Nat} (hi:i<m) {d:Nat} (hd:d<(T i).n) (hw:(T i).r.w.has d=false):i7 (T (i+1)).h d=i7 (T i).h d:=by
 rcases h.cases hi with ⟨x,_,⟨bs,_,e1,e2,_⟩|⟨d0,s1,b,_,ew,_,_,_,e1,e2⟩|⟨s1,ew,_,_,_,_,e2,e1⟩⟩|⟨e1,e2,_⟩
 ·rw[e1,B3,aQ4 (by omega)]
 ·rw[e1]
  rw[ew] at hw
  refine cG _ _ _ ?_ _
  intro e
  subst e
  have:=VS.has_only.2 (cZ2.2 rfl:d ∈ [d])
  rw[hw] at this
  cases this
 ·rw[ew] at hw
  rw[e1,bJ,fO,aQ4,pB,hw]
  ·simp
  ·rw[qX,Z3,hw]
   rintro (h3|h3)
   ·omega
   ·simp at h3
 ·rw[e1]
theorem H6.wv (h:H6 E s0 al A m fr0 T) {i:Nat} (hi:i<m) {d:Nat} (hw:(T i).r.w.has d=true):(T i).r.v.has d=true:=by
 rcases h.cases hi with ⟨x,_,⟨bs,_,_,_,ew,_⟩|⟨d0,s1,b,ev,ew,_⟩|⟨s1,ew,_⟩⟩|⟨_,_,e⟩
 ·rw[ew] at hw;cases hw
 ·rw[ew] at hw;rw[ev];exact hw
 ·rw[ew] at hw;exact hw
 ·rw[e] at hw;cases hw
theorem H6.newHas (h:H6 E s0 al A m fr0 T) {i:Nat} (hi:i<m) {d:Nat} (h1:(T i).n<=d) (h2:d<(T (i+1)).n):(T i).r.nw.has d:=by
 rcases h.cases hi with ⟨x,_,⟨bs,_,_,e,_,en⟩|⟨d0,s1,b,_,_,_,_,_,_,e⟩|⟨s1,_,en,_⟩⟩|⟨_,e,_⟩
 ·rw[en];exact TK _ _ _ h1 (by omega)
 ·omega
 ·rw[en];exact ⟨h1,h2⟩
 ·omega
def pW (T:Nat->TW) (i d:Nat):Bool:=(decide (d<(T i).n) && (T i).r.w.has d)||(decide ((T i).n<=d) && decide (d<(T (i+1)).n))
theorem Q5 {i d:Nat}:pW T i d=true↔(d<(T i).n/\(T i).r.w.has d=true)\/((T i).n<=d/\d<(T (i+1)).n):=by simp[pW]
def jP (T:Nat->TW) (l:Array Bool) (d:Nat):Nat->Option A0 × Nat
 |0=>(i7 (T 0).h d,(T 0).n)
 |i+1=>if l.getD i false && pW T i d then (i7 (T (i+1)).h d,(T (i+1)).n) else jP T l d i
theorem tA (h:H6 E s0 al A m fr0 T) (l:Array Bool) (d:Nat):∀ i,i<=m->(jP T l d i).2<=(T i).n
 |0,_=>aQ5 _
 |i+1,hi=>by
  have:=tA h l d i (by omega)
  have:=h.step_le (i:=i) (by omega)
  simp only[jP]
  split
  ·exact aQ5 _
  ·omega
theorem qJ (h:H6 E s0 al A m fr0 T) (hb:∀ i ∈ s0.heap.map (·.1),i<s0.next) (hn:(s0.heap.map (·.1)).Nodup) (l:Array Bool) (d:Nat):∀ i,i<=m->(∀ k,k<i->pW T k d=true->E3 l k)->(jP T l d i).1=i7 (T i).h d
 |0,_,_=>rfl
 |i+1,hi,h5=>by
  have ih:=qJ h hb hn l d i (by omega) fun k hk=>h5 k (by omega)
  simp only[jP]
  cases ht:pW T i d
  ·simp only[Bool.and_false,cS5,if_false]
   rw[ih]
   have h9:¬ ((d<(T i).n/\(T i).r.w.has d=true)\/((T i).n<=d/\d<(T (i+1)).n)):=fun e=>by rw[Q5.2 e] at ht;cases ht
   by_cases hd:d<(T i).n
   ·refine (h.unt (by omega) hd ?_).symm
    cases hw:(T i).r.w.has d
    ·rfl
    ·exact absurd (.inl ⟨hd,hw⟩) h9
   ·have hg:¬ d<(T (i+1)).n:=fun e=>h9 (.inr ⟨by omega,e⟩)
    rw[Y0 fun hk=>hd ((h.keys hb hn i (by omega)).2 d hk),Y0 fun hk=>hg ((h.keys hb hn (i+1) hi).2 d hk)]
  ·have ha:=h5 i (by omega) ht
   unfold E3 at ha
   rw[ha];rfl
theorem zF (l:Array Bool) (d i:Nat):∀ j,i<=j->(∀ k,i<=k->k<j->E3 l k->pW T k d=false)->jP T l d j=jP T l d i
 |0,hi,_=>by rw[show i=0 by omega]
 |j+1,hi,h5=>by
  by_cases h0:i=j+1
  ·subst h0;rfl
  ·simp only[jP]
   rw[aQ4]
   ·exact zF l d i j (by omega) fun k h1 h2=>h5 k h1 (by omega)
   ·intro hc
    rw[aO3] at hc
    have:=h5 j (by omega) (by omega) hc.1
    rw[hc.2] at this
    cases this
theorem HH {i j:Nat} (hi:i<l.size):(l.setIfInBounds i true).getD j false=if j=i then true else l.getD j false:=by
 have:=dB (l:=l) (i:=i) (j:=j) hi
 unfold E3 at this
 by_cases hj:j=i
 ·rw[aO9 hj];exact this.2 (.inl hj)
 ·rw[aQ4 hj]
  cases h1:(l.setIfInBounds i true).getD j false<;>cases h2:l.getD j false<;>simp[h1,h2,hj] at this ⊢
theorem bF1 {i:Nat} (hi:i<l.size) {d:Nat} (ht:pW T i d=false):∀ j,jP T (l.setIfInBounds i true) d j=jP T l d j
 |0=>rfl
 |j+1=>by
  simp only[jP]
  rw[bF1 hi ht j,HH hi]
  by_cases hj:j=i
  ·subst hj;rw[ht];simp
  ·rw[aQ4 hj]
structure JW (P:Program) (N:Nat) (G:A7) (ops:Array Oper) (al:List l5) (m:Nat) (fr0:Fr) (s0:St) (μ0:Mu) (ds0:List Deferred) (T:Nat->TW) (l:Array Bool) (a:Act) (w:World) (μ:Mu):Prop where
 sz:l.size=ops.size
 cl:LD ops l
 pre:∀ i,m<=i->¬ E3 l i
 tN:a.tmps.size=N
 df:a.defers=ds0
 fr1:∀ k x t,k<m->al[k]? =some x->x.dst=some t->E3 l k->∃ c,a.tmps[t]? =some c/\tr (cut μ (T (k+1)).n) (T k).v=some c
 fr0':∀ t v,(∀ k x,k<m->al[k]? =some x->x.dst=some t->¬ E3 l k)->I0 fr0 t=some v->∃ c,a.tmps[t]? =some c/\tr μ0 v=some c
 b0:Below G.w0.heap.size G.w0 w
 kp:O1 G.fx G.wp w
 low:∀ j,j<s0.next->μ j=μ0 j
 un:∀ k,k<m->¬ E3 l k->∀ j,(T k).n<=j->j<(T (k+1)).n->μ j=none
 hi:∀ j,(T m).n<=j->μ j=none
 blk:∀ d b,(jP T l d m).1=some b->∃ q,μ d=some q/\G.w0.heap.size<=q.blk/\(s0.prot<=d->¬ G.fx q.blk)/\pZ (cut μ (jP T l d m).2) w q b
 sep:∀ d d' b b' q q',(jP T l d m).1=some b->(jP T l d' m).1=some b'->d ≠ d'->μ d=some q->μ d'=some q'->q.blk ≠ q'.blk
theorem zI {n j:Nat} {q:ES} (e:cut μ n j=some q):μ j=some q/\j<n:=by
 unfold cut at e
 split at e
 ·exact ⟨e,by assumption⟩
 ·cases e
theorem MA {n j:Nat} (h:j<n):cut μ n j=μ j:=aO9 h
theorem JW.rep (hT:H6 E s0 al A m fr0 T) (hr:G5 G μ0 s0 ws) (h:JW P N G ops al m fr0 s0 μ0 ds0 T l a w μ) {i:Nat} (hi:i<=m) {V:VS} {pr:Nat}
  (h7:∀ d b,V.has d=true->i7 (T i).h d=some b->(jP T l d m).1=some b/\(jP T l d m).2<=(T i).n)
  (G':A7) (hG:G'.w0=G.w0) (hm:O1 G'.fx G'.wp w) (h8:G.w0.heap.size<=G'.wp.heap.size) (ho:pr=G'.pr)
  (hs:∀ d b q,i7 (G0 V (T i).h) d=some b->μ d=some q->pr<=d->¬ G'.fx q.blk):
  G5 G' (cut μ (T i).n) ⟨G0 V (T i).h,(T i).n,pr⟩ w:=by
 obtain ⟨hu,he⟩:=hT.keys hr.lt hr.nd i hi
 have hv:∀ d b,i7 (G0 V (T i).h) d=some b->V.has d=true/\i7 (T i).h d=some b/\d<(T i).n:=by
  intro d b hb
  rw[Z3] at hb
  split at hb
  ·rename_i hh
   exact ⟨hh,hb,he d (U4 _ _ _ hb)⟩
  ·cases hb
 refine ⟨by rw[hG];exact h.b0,hm,by rw[hG];exact h8,fun d b hd=>?_,fun d d' b b' q q' hd hz h6 hq g0=>?_,hu.sublist (KC V _),fun d hd=>he d ((KC V _).subset hd),fun d hd=>?_,ho⟩
 ·obtain ⟨h1,h2,h3⟩:=hv d b hd
  obtain ⟨c1,c2⟩:=h7 d b h1 h2
  obtain ⟨q,q1,q2,_,q4⟩:=h.blk d b c1
  exact ⟨q,by rw[MA h3];exact q1,by rw[hG];exact q2,fun hp=>hs d b q hd q1 hp,q4.mono (MB c2) rfl⟩
 ·obtain ⟨h1,h2,h3⟩:=hv d b hd
  obtain ⟨g1,g2,g3⟩:=hv d' b' hz
  exact h.sep d d' b b' q q' (h7 d b h1 h2).1 (h7 d' b' g1 g2).1 h6 (zI hq).1 (zI g0).1
 ·unfold cut
  rw[aQ4 (by simp only at hd;omega)]
end Go.Itp
namespace Go.Itp
open Go.RowKit (Below)
set_option linter.unusedSimpArgs false
variable {P:Program} {E:G3} {G:A7} {s s':St} {w ws w':World} {o:Oper} {a:Act} {fr fr':Fr} {v c:Value} {bs:List A0} {N:Nat}
variable {s0:St} {al:List l5} {A:List (List Nat)} {m:Nat} {fr0:Fr} {T:Nat->TW} {ops:Array Oper} {μ μ0 μ':Mu} {ds0:List Deferred} {l:Array Bool}
theorem H6.get (h:H6 E s0 al A m fr0 T) (t:Nat):
  ∀ i,i<=m->(∃ k x,k<i/\al[k]? =some x/\x.dst=some t/\I0 (T i).fr t=some (T k).v)\/((∀ k x,k<i->al[k]? =some x->x.dst ≠ some t)/\I0 (T i).fr t=I0 fr0 t)
 |0,_=> .inr ⟨fun k x hk=>by omega,by rw[h.fr]⟩
 |i+1,hi=>by
  have hl:=h.len
  obtain ⟨x,hx⟩:∃ x,al[i]? =some x:=⟨al[i]'(by omega),by simp[show i<al.length by omega]⟩
  have e:=(h.at_ i x (by omega) hx).1
  by_cases hd:x.dst=some t
  ·left
   refine ⟨i,x,by omega,hx,hd,?_⟩
   rw[e,hd]
   simp[J0,cQ]
  ·have e2:I0 (T (i+1)).fr t=I0 (T i).fr t:=by
    rw[e]
    cases g5:x.dst with
    |none=>rfl
    |some d=>
     simp only[J0,cQ]
     rw[aQ4]
     intro e3
     subst e3
     exact hd g5
   rcases h.get t i (by omega) with ⟨k,y,h1,h2,h3,h4⟩|⟨h1,h2⟩
   ·exact .inl ⟨k,y,by omega,h2,h3,by rw[e2];exact h4⟩
   ·refine .inr ⟨fun k y hk hy=>?_,by rw[e2];exact h2⟩
    by_cases hf:k=i
    ·subst hf;rw[hx] at hy;cases hy;exact hd
    ·exact h1 k y (by omega) hy
theorem JW.frame (S:Q9 P N ops al A m) (hT:H6 E s0 al A m fr0 T) (hr:G5 G μ0 s0 ws) (h:JW P N G ops al m fr0 s0 μ0 ds0 T l a w μ) {i:Nat} (hi:i<m) {x:l5} (ho:ops[i]? =some o) (h8:¬ E3 l i) (hp:∀ k ∈ W2 o,E3 l k) (hx:al[i]? =some x):
  J4 (cut μ (T i).n) (u9 (r9 x) (T i).fr) a.tmps:=by
 intro t v' hv
 have gd:t ∈ r9 x:=by
  have:∀ (fr:Fr),I0 (u9 (r9 x) fr) t=some v'->t ∈ r9 x:=by
   intro fr
   induction fr with
   |nil=>intro e;simp[u9,I0] at e
   |cons y r ih=>
    obtain ⟨j,u⟩:=y
    intro e
    simp only[u9] at e
    split at e
    ·rename_i hj
     simp only[I0] at e
     split at e
     ·rename_i gf
      rw[j9.1 gf]
      exact (m7 _ _).1 hj
     ·exact ih e
    ·exact ih e
  exact this _ hv
 have g0:=dD _ _ _ _ hv
 have g7:t ∈ cH x:=by simp[cH,gd]
 rcases hT.get t i (by omega) with ⟨k,y,h1,h2,h3,h4⟩|⟨h1,h2⟩
 ·rw[h4] at g0
  cases g0
  have hu:=(S.pair k i (by omega) (by have:=S.mle;omega) y x t h2 hx h3 g7 (by omega)).1
  rw[aQ4 (by omega)] at hu
  have h7:=R0 S h.cl i o ho hp k hu
  obtain ⟨c',c1,c2⟩:=h.fr1 k y t (by omega) h2 h3 h7
  exact ⟨c',c1,N1 (MB (hT.mono i (k+1) (by omega) (by omega))) _ c2⟩
 ·rw[h2] at g0
  obtain ⟨c',c1,c2⟩:=h.fr0' t v' (fun k y hk hy h9 h7=>by
   rcases Nat.lt_trichotomy k i with h5|h5|h5
   ·exact h1 k y h5 hy h9
   ·subst h5;exact h8 h7
   ·have hu:=(S.pair k i hk (by have:=S.mle;omega) y x t hy hx h9 g7 (by omega)).1
    rw[aO9 h5] at hu
    have hg:k<ops.size:=by have:=S.mle;omega
    exact h8 (R0 S h.cl k ops[k] (by simp[hg]) (h.cl k ops[k] (by simp[hg]) h7) i hu)) g0
  refine ⟨c',c1,N1 (fun j q e=>?_) _ c2⟩
  have hj:j<s0.next:=by
   rcases cL3 j s0.next with h'|h'
   ·exact h'
   ·rw[hr.dom j h'] at e;cases e
  have h0:=hT.mono i 0 (by omega) (by omega)
  rw[hT.n] at h0
  unfold cut
  rw[aO9 (by omega),h.low j hj]
  exact e
theorem JW.vis (S:Q9 P N ops al A m) (hT:H6 E s0 al A m fr0 T) (hr:G5 G μ0 s0 ws) (h:JW P N G ops al m fr0 s0 μ0 ds0 T l a w μ) {i:Nat} (hi:i<m) (ho:ops[i]? =some o) (h8:¬ E3 l i) (hp:∀ k ∈ W2 o,E3 l k):
  ∀ d b,(T i).r.v.has d=true->i7 (T i).h d=some b->(jP T l d m).1=some b/\(jP T l d m).2<=(T i).n:=by
 intro d b hv hb
 have gi:d<(T i).n:=(hT.keys hr.lt hr.nd i (by omega)).2 d (U4 _ _ _ hb)
 have e1:jP T l d m=jP T l d i:=by
  refine zF l d i m (by omega) fun k h1 h2 hk=>?_
  by_cases hf:k=i
  ·subst hf;exact absurd hk h8
  cases ht:pW T k d
  ·rfl
  exfalso
  have hg:k<ops.size:=by have:=S.mle;omega
  have hw:i ∉ (A[k]?).getD []:=fun hm=>h8 (R0 S h.cl k ops[k] (by simp[hg]) (h.cl k ops[k] (by simp[hg]) hk) i hm)
  have ha:=hT.ok k i h2 (by omega) hw
  simp only[K6.ok,aO3] at ha
  rcases Q5.1 ht with ⟨_,h4⟩|⟨h3,_⟩
  ·exact VS.dis_spec ha.1.2 h4 hv
  ·have:=hT.mono k i (by omega) (by omega);omega
 rw[e1]
 refine ⟨?_,tA hT l d i (by omega)⟩
 rw[qJ hT hr.lt hr.nd l d i (by omega)]
 ·exact hb
 ·intro k hk ht
  by_cases hm:k ∈ (A[i]?).getD []
  ·exact R0 S h.cl i o ho hp k hm
  exfalso
  have ha:=hT.ok i k hi hk hm
  simp only[K6.ok,aO3] at ha
  rcases Q5.1 ht with ⟨_,h4⟩|⟨h3,h4⟩
  ·exact VS.dis_spec ha.1.1 h4 hv
  ·have:=NW.out_spec ha.2 (hT.newHas (by omega) h3 h4)
   rw[hv] at this
   cases this
theorem JW.after (S:Q9 P N ops al A m) (hT:H6 E s0 al A m fr0 T) (h:JW P N G ops al m fr0 s0 μ0 ds0 T l a w μ) {i:Nat} (hi:i<m) (h8:¬ E3 l i) {d:Nat} (ht:pW T i d=true):
  jP T (l.setIfInBounds i true) d m=(i7 (T (i+1)).h d,(T (i+1)).n):=by
 have hz:i<l.size:=by rw[h.sz];have:=S.mle;omega
 have e1:jP T (l.setIfInBounds i true) d m=jP T (l.setIfInBounds i true) d (i+1):=by
  refine zF _ d (i+1) m (by omega) fun k h1 h2 hk=>?_
  rw[dB hz] at hk
  have hk:=hk.resolve_left (by omega)
  cases gg:pW T k d
  ·rfl
  exfalso
  have hg:k<ops.size:=by have:=S.mle;omega
  have hw:i ∉ (A[k]?).getD []:=fun hm=>h8 (R0 S h.cl k ops[k] (by simp[hg]) (h.cl k ops[k] (by simp[hg]) hk) i hm)
  have ha:=hT.ok k i h2 (by omega) hw
  simp only[K6.ok,aO3] at ha
  have gj:=hT.step_le (i:=i) hi
  have gk:=hT.mono k (i+1) (by omega) (by omega)
  rcases Q5.1 gg with ⟨_,h4⟩|⟨h3,_⟩
  ·have hv:=hT.wv h2 h4
   rcases Q5.1 ht with ⟨_,h6⟩|⟨h5,h6⟩
   ·exact VS.dis_spec ha.1.1 h6 hv
   ·have:=NW.out_spec ha.2 (hT.newHas hi h5 h6)
    rw[hv] at this
    cases this
  ·rcases Q5.1 ht with ⟨h5,_⟩|⟨_,h6⟩<;>omega
 rw[e1]
 simp only[jP]
 rw[HH hz,aO9 rfl,ht]
 rfl
theorem JW.step (S:Q9 P N ops al A m) (hT:H6 E s0 al A m fr0 T) (h:JW P N G ops al m fr0 s0 μ0 ds0 T l a w μ) {i:Nat} (hi:i<m) {x:l5} (ho:ops[i]? =some o) (h8:¬ E3 l i) (hp:∀ k ∈ W2 o,E3 l k)
  (hx:al[i]? =some x) (hd:x.dst=o.dst) (gh:∀ d,o.dst=some d->d<N)
  (e1:∀ j,j<(T i).n->μ' j=μ j) (e2:∀ j,(T (i+1)).n<=j->μ' j=none) (e3:tr μ' (T i).v=some c) (eb:Below G.w0.heap.size G.w0 w') (ek:O1 G.fx G.wp w')
  (eT:∀ d b,pW T i d=true->i7 (T (i+1)).h d=some b->∃ q,μ' d=some q/\G.w0.heap.size<=q.blk/\(s0.prot<=d->¬ G.fx q.blk)/\pZ μ' w' q b)
  (eS:∀ d d' b b' q q',pW T i d=true->pW T i d'=true->i7 (T (i+1)).h d=some b->i7 (T (i+1)).h d'=some b'->d ≠ d'->μ' d=some q->μ' d'=some q'->q.blk ≠ q'.blk)
  (eU:∀ d b q,pW T i d=false->(jP T l d m).1=some b->μ d=some q->w'.heap[q.blk]? =w.heap[q.blk]?)
  (eX:∀ d b q d' b' q',pW T i d=true->i7 (T (i+1)).h d=some b->μ' d=some q->pW T i d'=false->(jP T l d' m).1=some b'->μ d'=some q'->q.blk ≠ q'.blk):
  JW P N G ops al m fr0 s0 μ0 ds0 T (l.setIfInBounds i true) (a.put o.dst c) w' (mix μ μ' (T i).n (T (i+1)).n):=by
 have hz:i<l.size:=by rw[h.sz];have:=S.mle;omega
 have hn:∀ j,E3 (l.setIfInBounds i true) j↔j=i\/E3 l j:=fun j=>dB hz
 have g8:cut (mix μ μ' (T i).n (T (i+1)).n) (T (i+1)).n=μ':=by
  funext j
  unfold cut
  by_cases h1:j<(T (i+1)).n
  ·rw[aO9 h1]
   by_cases h2:(T i).n<=j
   ·rw[NJ ⟨h2,h1⟩]
   ·rw[S7 (by omega),e1 j (by omega)]
  ·rw[aQ4 h1,e2 j (by omega)]
 have hμle:∀ n,Mu.le (cut μ n) (cut (mix μ μ' (T i).n (T (i+1)).n) n):=by
  intro n j q e
  unfold cut at*
  split at e
  ·rename_i hj
   rw[aO9 hj]
   by_cases h2:(T i).n<=j/\j<(T (i+1)).n
   ·rw[h.un i hi h8 j h2.1 h2.2] at e;cases e
   ·rw[S7 h2];exact e
  ·cases e
 have g1:∀ d,pW T i d=false->(mix μ μ' (T i).n (T (i+1)).n) d=μ d:=by
  intro d ht
  refine S7 fun hc=>?_
  rw[Q5.2 (.inr hc)] at ht
  cases ht
 have g2:∀ d,pW T i d=true->(mix μ μ' (T i).n (T (i+1)).n) d=μ' d:=by
  intro d ht
  by_cases hc:(T i).n<=d/\d<(T (i+1)).n
  ·exact NJ hc
  ·rw[S7 hc]
   rcases Q5.1 ht with ⟨h3,_⟩|h3
   ·exact (e1 d h3).symm
   ·exact absurd h3 hc
 have g9:∀ t,o.dst ≠ some t->(a.put o.dst c).tmps[t]? =a.tmps[t]? :=by
  intro t ht
  cases g5:o.dst with
  |none=>rfl
  |some d=>
   simp only[Act.put]
   exact dJ1 (fun e=>ht (by rw[g5,e]))
 have g3:∀ d b,(jP T (l.setIfInBounds i true) d m).1=some b->(pW T i d=true/\i7 (T (i+1)).h d=some b/\(jP T (l.setIfInBounds i true) d m).2=(T (i+1)).n)\/(pW T i d=false/\(jP T l d m).1=some b/\(jP T (l.setIfInBounds i true) d m).2=(jP T l d m).2):=by
  intro d b hb
  cases ht:pW T i d
  ·right
   rw[bF1 hz ht] at hb ⊢
   exact ⟨rfl,hb,rfl⟩
  ·left
   rw[h.after S hT hi h8 ht] at hb ⊢
   exact ⟨rfl,hb,rfl⟩
 refine ⟨by simp[h.sz],?_,?_,by rw[fZ];exact h.tN,by rw[Z8];exact h.df,?_,?_,eb,ek,?_,?_,?_,?_,?_⟩
 ·intro j o' g6 hj k hk
  rw[hn] at hj ⊢
  rcases hj with rfl|hj
  ·rw[ho] at g6;cases g6
   exact .inr (hp k hk)
  ·exact .inr (h.cl j o' g6 hj k hk)
 ·intro j hj g4
  rw[hn] at g4
  rcases g4 with rfl|g4
  ·omega
  ·exact h.pre j hj g4
 ·intro k y t hk hy h9 h7
  by_cases hf:k=i
  ·subst hf
   rw[hx] at hy;cases hy
   rw[hd] at h9
   refine ⟨c,?_,by rw[g8];exact e3⟩
   have:=gh t h9
   simp[Act.put,h9,show t<a.tmps.size by rw[h.tN];exact this]
  ·rw[hn] at h7
   obtain ⟨c',h1,h2⟩:=h.fr1 k y t hk hy h9 (h7.resolve_left hf)
   refine ⟨c',?_,N1 (hμle _) _ h2⟩
   rw[g9 t (fun e=>hf (S.uniq k i y x t hk hi hy hx h9 (by rw[hd];exact e)))]
   exact h1
 ·intro t v' ga hv
  have hw:o.dst ≠ some t:=fun e=>ga i x hi hx (by rw[hd];exact e) ((hn i).2 (.inl rfl))
  obtain ⟨c',h1,h2⟩:=h.fr0' t v' (fun k y hk hy h9 h7=>ga k y hk hy h9 ((hn k).2 (.inr h7))) hv
  exact ⟨c',by rw[g9 t hw];exact h1,h2⟩
 ·intro j hj
  have h0:=hT.mono i 0 (by omega) (by omega)
  rw[hT.n] at h0
  rw[S7 (by omega)]
  exact h.low j hj
 ·intro k hk h7 j h1 h2
  have hf:k ≠ i:=fun e=>h7 ((hn k).2 (.inl e))
  rw[S7]
  ·exact h.un k hk (fun e=>h7 ((hn k).2 (.inr e))) j h1 h2
  ·rintro ⟨h3,h4⟩
   rcases Nat.lt_or_gt_of_ne hf with h5|h5
   ·have:=hT.mono i (k+1) (by omega) (by omega);omega
   ·have:=hT.mono k (i+1) (by omega) (by omega);omega
 ·intro j hj
  have:=hT.mono m (i+1) (by omega) (aQ5 _)
  rw[S7 (by omega)]
  exact h.hi j hj
 ·intro d b hb
  rcases g3 d b hb with ⟨ht,h1,h2⟩|⟨ht,h1,h2⟩
  ·obtain ⟨q,q1,q2,q3,q4⟩:=eT d b ht h1
   exact ⟨q,by rw[g2 d ht];exact q1,q2,q3,by rw[h2,g8];exact q4⟩
  ·obtain ⟨q,q1,q2,q3,q4⟩:=h.blk d b h1
   exact ⟨q,by rw[g1 d ht];exact q1,q2,q3,by rw[h2];exact q4.mono (hμle _) (eU d b q ht h1 q1)⟩
 ·intro d d' b b' q q' hb gb gc hq hh
  rcases g3 d b hb with ⟨ht,h1,_⟩|⟨ht,h1,_⟩
  ·rw[g2 d ht] at hq
   rcases g3 d' b' gb with ⟨he,hs,_⟩|⟨he,hs,_⟩
   ·rw[g2 d' he] at hh
    exact eS d d' b b' q q' ht he h1 hs gc hq hh
   ·rw[g1 d' he] at hh
    exact eX d b q d' b' q' ht h1 hq he hs hh
  ·rw[g1 d ht] at hq
   rcases g3 d' b' gb with ⟨he,hs,_⟩|⟨he,hs,_⟩
   ·rw[g2 d' he] at hh
    exact Ne.symm (eX d' b' q' d b q he hs hh ht h1 hq)
   ·rw[g1 d' he] at hh
    exact h.sep d d' b b' q q' h1 hs gc hq hh
end Go.Itp
namespace Go.Itp
open Go.RowKit (Below)
set_option linter.unusedSimpArgs false
variable {P:Program} {E:G3} {G:A7} {s s':St} {w ws w':World} {o:Oper} {a:Act} {fr fr':Fr} {v c:Value} {bs:List A0} {N:Nat}
variable {s0:St} {al:List l5} {A:List (List Nat)} {m:Nat} {fr0:Fr} {T:Nat->TW} {ops:Array Oper} {μ μ0 μ':Mu} {ds0:List Deferred} {l:Array Bool}
def SO (w0 w:World) (p:Nat) (μ:Mu) (h:o7):A7:=
 ⟨w0,w,p,fun k=>k<w.heap.size/\∀ d b q,i7 h d=some b->μ d=some q->p<=d->q.blk ≠ k,fun _ h=>h.1⟩
theorem JW.wrote (S:Q9 P N ops al A m) (hT:H6 E s0 al A m fr0 T) (hr:G5 G μ0 s0 ws) (h:JW P N G ops al m fr0 s0 μ0 ds0 T l a w μ) {i:Nat} (hi:i<m) {x:l5} (ho:ops[i]? =some o) (h5:¬ E3 l i) (hp:∀ k ∈ W2 o,E3 l k)
  (hx:al[i]? =some x) (hd:x.dst=o.dst) (gy:∀ d,o.dst=some d->d<N)
  {s1:St} (hw:U3 (SO G.w0 w s0.prot μ (G0 (T i).r.v (T i).h)) (cut μ (T i).n) ⟨G0 (T i).r.v (T i).h,(T i).n,s0.prot⟩ (T i).v s1 c w') (ga:s1.next=(T (i+1)).n)
  (f1:∀ d b,pW T i d=true->i7 (T (i+1)).h d=some b->i7 s1.heap d=some b/\(((T i).n<=d/\s0.prot<=d)\/∃ b0,i7 (G0 (T i).r.v (T i).h) d=some b0))
  (f2:∀ d b,i7 (G0 (T i).r.v (T i).h) d=some b->pW T i d=true):
  ∃ μ2,JW P N G ops al m fr0 s0 μ0 ds0 T (l.setIfInBounds i true) (a.put o.dst c) w' μ2:=by
 obtain ⟨μ',m1,m2,m3⟩:=hw
 have g6:=h.vis S hT hr hi ho h5 hp
 have ha:∀ d b,i7 (G0 (T i).r.v (T i).h) d=some b->(jP T l d m).1=some b/\d<(T i).n:=by
  intro d b hb
  rw[Z3] at hb
  split at hb
  ·rename_i hh
   exact ⟨(g6 d b hh hb).1,(hT.keys hr.lt hr.nd i (by omega)).2 d (U4 _ _ _ hb)⟩
  ·cases hb
 have gk:∀ d b q,pW T i d=false->(jP T l d m).1=some b->μ d=some q->(SO G.w0 w s0.prot μ (G0 (T i).r.v (T i).h)).fx q.blk:=by
  intro d b q ht hb hq
  obtain ⟨q',q1,_,_,q4⟩:=h.blk d b hb
  rw[hq] at q1;cases q1
  refine ⟨q4.lt,fun d1 b1 q1 h1 h2 _=>?_⟩
  have hl:d1 ≠ d:=fun e=>by
   subst e
   rw[f2 d1 b1 h1] at ht
   cases ht
  exact h.sep d1 d b1 b q1 q (ha d1 b1 h1).1 hb hl h2 hq
 have gl:∀ k,G.fx k->(SO G.w0 w s0.prot μ (G0 (T i).r.v (T i).h)).fx k:=by
  intro k hk
  refine ⟨dJ0 (G.fl k hk) h.kp.size,fun d b q h1 h2 h3 e=>?_⟩
  obtain ⟨q',q1,_,q3,_⟩:=h.blk d b (ha d b h1).1
  rw[h2] at q1;cases q1
  rw[e] at q3
  exact q3 h3 hk
 have gm:∀ j,j<(T i).n->μ' j=μ j:=fun j hj=>by rw[m1.ag j hj];exact MA hj
 have h6:s1.prot=s0.prot:=m3.pr
 refine ⟨_,h.step S hT hi ho h5 hp hx hd gy (μ':=μ') gm (fun j hj=>m3.dom j (by rw[ga];exact hj)) m2 m3.b0 (h.kp.trans (m3.bp.mono gl)) ?_ ?_ ?_ ?_⟩
 ·intro d b ht hb
  obtain ⟨q,q1,q2,q3,q4⟩:=m3.blk d b (f1 d b ht hb).1
  exact ⟨q,q1,q2,fun hp hk=>q3 (by rw[h6];exact hp) (gl _ hk),q4⟩
 ·intro d d' b b' q q' ht hs hb h0 hl hq h7
  exact m3.sep d d' b b' q q' (f1 d b ht hb).1 (f1 d' b' hs h0).1 hl hq h7
 ·intro d b q ht hb hq
  exact m3.bp.block _ (gk d b q ht hb hq)
 ·intro d b q d' b' q' ht hb hq hs h0 h7
  obtain ⟨g1,g2|⟨b0,g2⟩⟩:=f1 d b ht hb
  ·obtain ⟨p,p1,_,p3,_⟩:=m3.blk d b g1
   rw[hq] at p1;cases p1
   exact fun e=>p3 (by rw[h6];exact g2.2) (by rw[e];exact gk d' b' q' hs h0 h7)
  ·obtain ⟨k1,k2⟩:=ha d b0 g2
   have hl:d ≠ d':=fun e=>by subst e;rw[ht] at hs;cases hs
   rw[gm d k2] at hq
   exact h.sep d d' b0 b' q q' k1 h0 hl hq h7
theorem JW.le0 (h:JW P N G ops al m fr0 s0 μ0 ds0 T l a w μ) (hr:G5 G μ0 s0 ws):Mu.le μ0 μ:=fun j q e=>by
 have hj:j<s0.next:=by
  rcases cL3 j s0.next with h'|h'
  ·exact h'
  ·rw[hr.dom j h'] at e;cases e
 rw[h.low j hj];exact e
theorem JW.leCut (h:JW P N G ops al m fr0 s0 μ0 ds0 T l a w μ) (hr:G5 G μ0 s0 ws) {n:Nat} (hn:s0.next<=n):Mu.le μ0 (cut μ n):=fun j q e=>by
 have hj:j<s0.next:=by
  rcases cL3 j s0.next with h'|h'
  ·exact h'
  ·rw[hr.dom j h'] at e;cases e
 unfold cut
 rw[aO9 (by omega),h.low j hj];exact e
theorem cD9 {ro:Option Nat} (hE:v8 P E G.w0 μ0) (S:Q9 P N ops al A m) (hT:H6 E s0 al A m fr0 T) (hr:G5 G μ0 s0 ws) {Q:Exit->Act->World->Prop}
  (g7:L5 E (al.drop m) (T m).fr ⟨(T m).h,(T m).n,s0.prot⟩=some (fr',s')) (hQ:pY G N s0 μ0 ds0 fr' s' (Q .normal)):
  ∀ (fuel:Nat) (l:Array Bool) (a:Act) (w:World) (μ:Mu),JW P N G ops al m fr0 s0 μ0 ds0 T l a w μ->GG l ops.size<=fuel->wpAnyIn (FW ro) 0 P .any ops Q fuel l a w:=by
 have gn:m<=al.length:=by rw[S.len];exact S.mle
 intro fuel
 induction fuel with
 |zero=>
  intro l a w μ h hc
  have go:∀ i,i<ops.size->E3 l i:=by
   intro i hi
   refine dI8 fun hd=>?_
   have:=xO (l:=l) ops.size i hi hd
   omega
  have ji:m=ops.size:=by
   rcases cL3 m ops.size with h'|h'
   ·exact absurd (go m h') (h.pre m (aQ5 _))
   ·have:=S.mle;omega
  exact pre_done hE S hT hr g7 hQ 0 l a w μ h (fun i hi=>go i (by omega)) (by omega)
 |succ fuel ih=>
  intro l a w μ h hc
  by_cases hu:∀ i,i<m->E3 l i
  ·exact pre_done hE S hT hr g7 hQ (fuel+1) l a w μ h hu (by
    have:=LY (l:=l) m ops.size fun i hi _=>h.pre i hi
    omega)
  obtain ⟨i0,jj,gp⟩:∃ i,i<m/\¬ E3 l i:=by
   refine dI8 fun hn=>hu fun i hi=>dI8 fun hd=>hn ⟨i,hi,hd⟩
  refine ⟨fun gz=>absurd (yH S h.sz gz i0 (by have:=S.mle;omega)) gp,fun i hi=>?_⟩
  obtain ⟨o,ho,h5,h6⟩:=(aE h.sz).1 hi
  have gb:i<ops.size:=by
   rcases cL3 i ops.size with h'|h'
   ·exact h'
   ·simp[cZ3 h'] at ho
  have h8:i<m:=by
   rcases cL3 i m with h'|h'
   ·exact h'
   ·exact absurd (R0 S h.cl i o ho h6 i0 (S.tail i0 i h' gb (by omega))) gp
  obtain ⟨x,hx,j0⟩:=(Y4 _ _ _ S.res).2 i o (by simpa using ho)
  obtain ⟨g1,g2,g3,g4⟩:=cL j0
  have hf:=h.frame S hT hr h8 ho h5 h6 hx
  obtain ⟨_,g,hb,j1,hz⟩:=hT.at_ i x h8 hx
  have hw:=nQ hf g1 hb
  have j2:i<l.size:=by rw[h.sz];exact gb
  have gc:GG (l.setIfInBounds i true) ops.size<=fuel:=by
   have:=(LZ j2 h5 ops.size).1 gb
   omega
  have g6:=h.vis S hT hr h8 ho h5 h6
  have gq:=hT.keys hr.lt hr.nd i (by omega)
  have ha:∀ d b,i7 (G0 (T i).r.v (T i).h) d=some b->(T i).r.v.has d=true/\i7 (T i).h d=some b/\d<(T i).n:=by
   intro d b hb
   rw[Z3] at hb
   split at hb
   ·rename_i hh
    exact ⟨hh,hb,gq.2 d (U4 _ _ _ hb)⟩
   ·cases hb
  unfold wpOpIn
  simp only[ho,hw]
  cases g
  ·simp only[cS5,if_false]
   obtain ⟨hv,hh,hn,j3⟩:=hz rfl
   have gd:∀ d,pW T i d=false:=by
    intro d
    cases ht:pW T i d
    ·rfl
    ·rcases Q5.1 ht with ⟨_,h2⟩|h2
     ·rw[j3] at h2;cases h2
     ·omega
   refine ⟨fun f _=>jZ ro f,ih _ _ _ _ (h.step S hT h8 ho h5 h6 hx g2 g3 (μ':=cut μ (T i).n) (w':=w) (c:=undef) (fun j hj=>MA hj) (fun j hj=>aQ4 (by omega)) (by rw[hv];rfl) h.b0 h.kp (fun d b ht=>by rw[gd d] at ht;cases ht) (fun d d' b b' q q' ht=>by rw[gd d] at ht;cases ht) (fun d b q _ _ _=>rfl) (fun d b q d' b' q' ht=>by rw[gd d] at ht;cases ht)) gc⟩
  ·simp only[if_true]
   have gr:∀ (s1:St),s7 E (u9 (r9 x) (T i).fr) ⟨G0 (T i).r.v (T i).h,(T i).n,s0.prot⟩ x.op=some ((T i).v,s1)->s1.next=(T (i+1)).n->
     (∀ d b,pW T i d=true->i7 (T (i+1)).h d=some b->i7 s1.heap d=some b/\(((T i).n<=d/\s0.prot<=d)\/∃ b0,i7 (G0 (T i).r.v (T i).h) d=some b0))->
     (∀ d b,i7 (G0 (T i).r.v (T i).h) d=some b->pW T i d=true)->o.wpIn (FW ro) 0 P a w (fun a' w'=>wpAnyIn (FW ro) 0 P .any ops Q fuel (l.setIfInBounds i true) a' w') Q:=by
    intro s1 h9 ga f1 f2
    rcases g4 with ⟨g4,g5⟩|g4
    ·rw[g4] at h9
     have gf:G5 (SO G.w0 w s0.prot μ (G0 (T i).r.v (T i).h)) (cut μ (T i).n) ⟨G0 (T i).r.v (T i).h,(T i).n,s0.prot⟩ w:=
      h.rep hT hr (by omega) g6 (SO G.w0 w s0.prot μ (G0 (T i).r.v (T i).h)) rfl (O1.refl _ _) h.b0.size rfl fun d b q h1 h2 h3 hk=>hk.2 d b q h1 h2 h3 rfl
     refine sK hf gf (hE.mono (h.leCut hr (by rw[<- hT.n];exact hT.mono i 0 (by omega) (by omega)))) g5 h9 ro _ Q fun c w' j4=>?_
     obtain ⟨μ2,hJ⟩:=h.wrote S hT hr h8 ho h5 h6 hx g2 g3 j4 ga f1 f2
     exact ih _ _ _ _ hJ gc
    ·rw[g4] at h9
     simp[s7] at h9
   rcases j1 rfl with ⟨bs,g8,eh,en,ew,_⟩|⟨d0,s1,b,ev,ew,h9,e1,e2,e3,e4⟩|⟨s1,ew,_,jk,jl,h9,e1,e2⟩
   ·rcases g4 with ⟨g4,g5⟩|g4
    ·rw[g4] at g8
     have gf:G5 (AA G.w0 w (T i).n) (cut μ (T i).n) ⟨G0 (T i).r.v (T i).h,(T i).n,(T i).n⟩ w:=
      h.rep hT hr (by omega) g6 (AA G.w0 w (T i).n) rfl (O1.refl _ _) h.b0.size rfl fun d b q h1 _ h3=>by have:=(ha d b h1).2.2;omega
     refine jE hf gf (hE.mono (h.leCut hr (by rw[<- hT.n];exact hT.mono i 0 (by omega) (by omega)))) g5 g8 ro _ Q fun c w' ⟨μ',m1,m2,m3,m4⟩=>?_
     have gg:∀ d,pW T i d=true->(T i).n<=d/\d<(T (i+1)).n:=by
      intro d ht
      rcases Q5.1 ht with ⟨_,h2⟩|h2
      ·rw[ew] at h2;cases h2
      ·exact h2
     have g9:∀ d b,pW T i d=true->i7 (T (i+1)).h d=some b->i7 (St.push ⟨G0 (T i).r.v (T i).h,(T i).n,(T i).n⟩ bs).heap d=some b:=by
      intro d b ht hb
      have:=gg d ht
      rw[eh,B3,aO9 (by omega)] at hb
      simp only[St.push]
      rw[B3,aO9 (by omega)]
      exact hb
     refine ih _ _ _ _ (h.step S hT h8 ho h5 h6 hx g2 g3 (μ':=μ') (w':=w') (c:=c) (fun j hj=>by rw[m1.ag j hj];exact MA hj) (fun j hj=>m3.dom j (by simp only[St.push];omega)) m2 m3.b0 (h.kp.trans (O1.of m4 fun k hk=>dJ0 (G.fl k hk) h.kp.size)) (fun d b ht hb=>?_) (fun d d' b b' q q' ht hs hb h0 hl hq h7=>?_) (fun d b q _ hb hq=>?_) (fun d b q d' b' q' ht hb hq _ h0 h7=>?_)) gc
     ·obtain ⟨q,q1,q2,q3,q4⟩:=m3.blk d b (g9 d b ht hb)
      have j5:=Nat.le_of_not_lt (q3 (by simp only[St.push];exact (gg d ht).1))
      exact ⟨q,q1,q2,fun _ hk=>by have:=G.fl _ hk;have:=h.kp.size;omega,q4⟩
     ·exact m3.sep d d' b b' q q' (g9 d b ht hb) (g9 d' b' hs h0) hl hq h7
     ·obtain ⟨q',q1,_,_,q4⟩:=h.blk d b hb
      rw[hq] at q1;cases q1
      exact m4.block _ q4.lt
     ·obtain ⟨p,p1,_,p3,_⟩:=m3.blk d b (g9 d b ht hb)
      rw[hq] at p1;cases p1
      have j5:=Nat.le_of_not_lt (p3 (by simp only[St.push];exact (gg d ht).1))
      obtain ⟨q2,q1,_,_,q4⟩:=h.blk d' b' h0
      rw[h7] at q1;cases q1
      have:=q4.lt
      omega
    ·rw[g4] at g8
     simp[d9] at g8
   ·refine gr s1 h9 (by omega) (fun d b' ht h0=>?_) (fun d b' h0=>?_)
    ·have j6:d=d0:=by
      rcases Q5.1 ht with ⟨_,h2⟩|h2
      ·rw[ew] at h2
       exact cZ2.1 (VS.has_only.1 h2)
      ·omega
     subst j6
     rw[e3] at h0
     obtain ⟨rfl,b0,gh⟩:=kX _ h0
     refine ⟨e2,.inr ⟨b0,?_⟩⟩
     rw[Z3,ev,aO9 (VS.has_only.2 (cZ2.2 rfl))]
     exact gh
    ·obtain ⟨h1,_,h3⟩:=ha d b' h0
     rw[ev] at h1
     exact Q5.2 (.inl ⟨h3,by rw[ew];exact h1⟩)
   ·refine gr s1 h9 (by omega) (fun d b' ht h0=>?_) (fun d b' h0=>?_)
    ·rw[e2,bJ] at h0
     have j7:i7 (mC (T i).r.v (T i).h) d=none:=by
      rw[pB]
      split
      ·rfl
      ·rename_i hD
       rcases Q5.1 ht with ⟨_,h2⟩|⟨h2,_⟩
       ·rw[ew] at h2
        exact absurd h2 hD
       ·exact Y0 fun hk=>by have:=gq.2 d hk;omega
     rw[j7] at h0
     have hz:i7 (kS (T i).n (T (i+1)).n (G0 (T i).r.v (T i).h) s1.heap) d=some b':=by
      split at h0
      ·rename_i b2 h2;cases h0;exact h2
      ·cases h0
     rw[fO] at hz
     split at hz
     ·rename_i hc
      refine ⟨hz,?_⟩
      rcases hc with hc|hc
      ·exact .inl ⟨hc.1,by omega⟩
      ·right
       rw[qX] at hc
       obtain ⟨b0,gh⟩:=dJ5.1 hc
       exact ⟨b0,gh⟩
     ·cases hz
    ·obtain ⟨h1,_,h3⟩:=ha d b' h0
     exact Q5.2 (.inl ⟨h3,by rw[ew];exact h1⟩)
where
 pre_done {ro:Option Nat} (hE:v8 P E G.w0 μ0) (S:Q9 P N ops al A m) (hT:H6 E s0 al A m fr0 T) (hr:G5 G μ0 s0 ws) {Q:Exit->Act->World->Prop}
   (g7:L5 E (al.drop m) (T m).fr ⟨(T m).h,(T m).n,s0.prot⟩=some (fr',s')) (hQ:pY G N s0 μ0 ds0 fr' s' (Q .normal))
   (fuel:Nat) (l:Array Bool) (a:Act) (w:World) (μ:Mu) (h:JW P N G ops al m fr0 s0 μ0 ds0 T l a w μ) (hu:∀ i,i<m->E3 l i) (hf:ops.size - m<=fuel):wpAnyIn (FW ro) 0 P .any ops Q fuel l a w:=by
  have j8:s0.next<=(T m).n:=by rw[<- hT.n];exact hT.mono m 0 (by omega) (aQ5 _)
  have gi:Mu.le μ0 μ:=fun j q e=>by
   have hj:j<s0.next:=by
    rcases cL3 j s0.next with h'|h'
    ·exact h'
    ·rw[hr.dom j h'] at e;cases e
   rw[h.low j hj];exact e
  have hv:G0 (.but []) (T m).h=(T m).h:=tE _
  have gs:=h.rep hT hr (i:=m) (aQ5 _) (V:= .but []) (pr:=s0.prot) (fun d b _ hb=>by
    refine ⟨?_,tA hT l d m (aQ5 _)⟩
    rw[qJ hT hr.lt hr.nd l d m (aQ5 _) fun k hk _=>hu k hk]
    exact hb) G rfl h.kp hr.le hr.pr (fun d b q hb hq hp=>by
    rw[hv] at hb
    have hc:(jP T l d m).1=some b:=by
     rw[qJ hT hr.lt hr.nd l d m (aQ5 _) fun k hk _=>hu k hk]
     exact hb
    obtain ⟨q',q1,_,q3,_⟩:=h.blk d b hc
    rw[hq] at q1;cases q1
    exact q3 hp)
  rw[qK h.hi,hv] at gs
  have j9:∀ n,Mu.le (cut μ n) μ:=fun n j q e=>(zI e).1
  refine OO S fuel m l (T m).fr _ μ a w (hE.mono gi) (aQ5 _) S.mle h.sz (fun i hi=>⟨fun hd=>?_,fun h8=>hu i h8⟩) hf g7 ?_ h.tN gs ?_
  ·rcases cL3 i m with h'|h'
   ·exact h'
   ·exact absurd hd (h.pre i h')
  ·intro t v' hv
   rcases hT.get t m (aQ5 _) with ⟨k,y,h1,h2,h3,h4⟩|⟨h1,h2⟩
   ·rw[h4] at hv
    cases hv
    obtain ⟨c',c1,c2⟩:=h.fr1 k y t h1 h2 h3 (hu k h1)
    exact ⟨c',c1,N1 (j9 _) _ c2⟩
   ·rw[h2] at hv
    obtain ⟨c',c1,c2⟩:=h.fr0' t v' (fun k y hk hy ja=>absurd ja (h1 k y hk hy)) hv
    exact ⟨c',c1,N1 gi _ c2⟩
  ·rw[h.df]
   intro μ2 a2 w2 gj
   exact hQ μ2 a2 w2 (Y9.trans ⟨gi,j8,h.low⟩ gj)
theorem BM {rs:List K6} {q:K6}:∀ (l:List Nat),wN rs q l=true->∀ k ∈ l,∃ p,rs[k]? =some p/\p.ok q=true
 | [],_,k,hk=>by cases hk
 |j::r,h,k,hk=>by
  simp only[wN,aO3] at h
  rcases bX5.1 hk with rfl|hk
  ·have h1:=h.1
   rw[y7] at h1
   cases e:rs[k]? with
   |none=>rw[e] at h1;cases h1
   |some p=>rw[e] at h1;exact ⟨p,rfl,h1⟩
  ·exact BM r h.2 k hk
theorem bM7 (q:K6):q.ok wJ=true:=by
 simp only[K6.ok,wJ,aO3]
 refine ⟨⟨?_,?_⟩,?_⟩
 ·cases q.w with
  |only l=>exact (bG l []).2 (by simp)
  |but l=>rfl
 ·cases q.v with
  |only l=>rfl
  |but l=>rfl
 ·cases q.nw with
  |fix l=>exact (bG l []).2 (by simp)
  |rng lo hi=>rfl
theorem bG0 {ro:Option Nat} {id:Nat} {ops:Array Oper} {pre0:List sL} {k:List Nat} {ac:AC} (hc:mQ P N ops.toList pre0 k=some ac) {fr:Fr} {s:St} {μ:Mu} {a:Act} {w:World} {Q:Exit->Act->World->Prop} {ex:Ex}
  (hE:v8 P E G.w0 μ) (he:C7 E ac fr s=some (ex,fr',s')) (hf:J4 μ fr a.tmps) (hN:a.tmps.size=N) (hr:G5 G μ s w) (hQ:pY G N s μ a.defers fr' s' (Q .normal)):ex= .normal/\(Code.region id ops true).wpIn (FW ro) 0 P Q a w:=by
 simp only[mQ,aG3] at hc
 obtain ⟨al,jb,hc⟩:=hc
 split at hc
 case isFalse=>cases hc
 rename_i jc
 cases hc
 have S:=JX jb jc
 generalize hm:pre0.length=m at*
 simp only[C7,aG3,aG4] at he
 obtain ⟨⟨fr1,h1,n1⟩,jd,⟨fr2,s2⟩,h2,e⟩:=he
 simp only[aS6] at e
 obtain ⟨rfl,rfl,rfl⟩:=e
 refine ⟨rfl,?_⟩
 obtain ⟨T,t1,t2,t3,t4,t5,t6,t7⟩:=CO fr s.prot _ _ _ _ _ _ _ _ jd
 have gn:m<=al.length:=by rw[S.len];exact S.mle
 rw[cZ0,List.length_range] at t5 t6 t7
 have gu:∀ i x,i<m->al[i]? =some x->∃ y:sL,((List.range m).map fun i=>(⟨(E1 al i).getD ⟨none,none,.bad⟩,(List.range i).filter fun k=> !ET (fF ops.toList []) k i,(E1 pre0 i).bind (·.hint)⟩:sL))[i]? =some y/\y.o=x/\y.conc=(List.range i).filter fun k=> !ET (fF ops.toList []) k i:=by
  intro i x hi hx
  refine ⟨_,by simp[hi];rfl,?_,rfl⟩
  rw[y7,hx];rfl
 have hT:H6 E s al (fF ops.toList []) m fr T:=by
  refine ⟨t1,t2,t3,fun i x hi hx=>?_,fun i k hi hk je=>?_,gn⟩
  ·obtain ⟨y,hy,gv,_⟩:=gu i x hi hx
   obtain ⟨u1,g,u2,u3,u4⟩:=t4 i y hy
   rw[gv] at u1 u2 u3
   exact ⟨u1,g,u2,fun hg=>(u3 hg).1,u4⟩
  ·obtain ⟨x,hx⟩:∃ x,al[i]? =some x:=⟨al[i]'(by omega),by simp[show i<al.length by omega]⟩
   obtain ⟨y,hy,gv,jf⟩:=gu i x hi hx
   obtain ⟨_,g,_,u3,u4⟩:=t4 i y hy
   cases g
   ·rw[(u4 rfl).2.2.2];exact bM7 _
   ·obtain ⟨p,hp,jg⟩:=BM _ (u3 rfl).2 k (by
     rw[jf]
     simp only[List.mem_filter,List.mem_range,Bool.not_eq_eq_eq_not,dK1]
     refine ⟨hk,?_⟩
     cases h:ET (fF ops.toList []) k i
     ·rfl
     ·exact absurd (kG.1 h) je)
    simp only[dJ3,dK9,List.getElem?_range hk,aX8,aJ7] at hp
    rw[hp];exact jg
 refine wpIn_region_any hE.mix ?_
 have g0:G5 G μ s {w with drawn:=w.drawn+1}:=hr.drew
 refine cD9 hE S hT g0 (ds0:=a.defers) (fr':=fr2) (s':=s2) ?_ (fun μ2 a2 w2 gj jh=>hQ μ2 a2 w2 gj (jh.keep k)) ops.size _ a _ μ ?_ ?_
 ·rw[t5,t6,t7];exact h2
 ·have h5:∀ i,¬ E3 (Array.replicate ops.size false) i:=fun i hd=>by unfold E3 at hd;rw[AH] at hd;cases hd
  have gw:∀ d i,jP T (Array.replicate ops.size false) d i=(i7 s.heap d,s.next):=by
   intro d i
   induction i with
   |zero=>simp only[jP];rw[t2,t3]
   |succ i ih=>
    simp only[jP]
    rw[AH]
    simpa using ih
  refine ⟨by simp,fun i o ho hd=>absurd hd (h5 i),fun i _=>h5 i,hN,rfl,fun k x t _ _ _ hd=>absurd hd (h5 k),fun t v _ hv=>hf t v hv,g0.b0,g0.bp,fun j _=>rfl,fun k hk _ j h1 _=>?_,fun j hj=>?_,fun d b hd=>?_,fun d d' b b' q q' hd gx=>?_⟩
  ·have:=hT.mono k 0 (by omega) (by omega)
   rw[hT.n] at this
   exact hr.dom j (by omega)
  ·have:=hT.mono m 0 (by omega) (aQ5 _)
   rw[hT.n] at this
   exact hr.dom j (by omega)
  ·rw[gw] at hd ⊢
   obtain ⟨q,q1,q2,q3,q4⟩:=g0.blk d b hd
   refine ⟨q,q1,q2,q3,?_⟩
   rw[qK hr.dom]
   exact q4
  ·rw[gw] at hd gx
   exact g0.sep d d' b b' q q' hd gx
 ·have:∀ n,GG (Array.replicate ops.size false) n<=n:=by
   intro n
   induction n with
   |zero=>simp[GG]
   |succ n ih=>simp only[GG];split<;>omega
  exact this _
end Go.Itp
namespace Go.Itp
open Go.RowKit (Below)
set_option linter.unusedSimpArgs false
variable {P:Program} {E:G3} {G:A7} {μ:Mu} {s s':St} {w:World} {o:Oper} {a:Act} {fr fr':Fr} {v:Value} {bs:List A0} {N:Nat}
def MN:Ex->Exit
 | .normal=> .normal
 | .exit id=> .exit id
 | .ret=> .ret
structure PC (G G':A7):Prop where
 w0:G'.w0=G.w0
 pr:G'.pr=G.pr
 fx:∀ k,G.fx k->G'.fx k
 kp:O1 G.fx G.wp G'.wp
 le:G.w0.heap.size<=G.wp.heap.size
theorem PC.refl (h:G.w0.heap.size<=G.wp.heap.size):PC G G:=⟨rfl,rfl,fun _ h=>h,O1.refl _ _,h⟩
theorem PC.trans {G G1 G2:A7} (h:PC G G1) (k:PC G1 G2):PC G G2:=
 ⟨k.w0.trans h.w0,k.pr.trans h.pr,fun i hi=>k.fx i (h.fx i hi),h.kp.trans (k.kp.mono h.fx),h.le⟩
theorem G5.down {G G':A7} (g:PC G G') (h:G5 G' μ s w):G5 G μ s w:=by
 refine ⟨by rw[<- g.w0];exact h.b0,g.kp.trans (h.bp.mono g.fx),g.le,fun i b e=>?_,h.sep,h.nd,h.lt,h.dom,by rw[<- g.pr];exact h.pr⟩
 obtain ⟨l,l1,l2,l3,l4⟩:=h.blk i b e
 exact ⟨l,l1,by rw[<- g.w0];exact l2,fun hp hk=>l3 hp (g.fx _ hk),l4⟩
def AY (r:Nat):Deferred:={target:= .collected r,args:=#[]}
def jN (G G':A7) (ms:List Deferred):Prop:=
 ∃ rs:List Nat,ms=rs.map AY/\rs.Nodup/\∀ r ∈ rs,G.w0.heap.size<=r/\¬ G.fx r/\G'.fx r/\G'.wp.heap[r]? =some (.deferred (some []))
theorem jN.nil (G:A7):jN G G []:=⟨[],rfl,List.nodup_nil,fun r h=>by cases h⟩
theorem jN.trans {G G1 G2:A7} {m1 m2:List Deferred} (g1:PC G G1) (h:jN G G1 m1) (g:PC G1 G2) (k:jN G1 G2 m2):jN G G2 (m2++m1):=by
 obtain ⟨r1,rfl,n1,h1⟩:=h
 obtain ⟨r2,rfl,n2,h2⟩:=k
 refine ⟨r2++r1,by simp,?_,fun r hr=>?_⟩
 ·rw[List.nodup_append]
  exact ⟨n2,n1,fun a ha b hb e=>by subst e;exact (h2 a ha).2.1 (h1 a hb).2.2.1⟩
 ·rw[cB1] at hr
  rcases hr with hr|hr
  ·obtain ⟨a,b,c,d⟩:=h2 r hr
   exact ⟨by rw[<- g1.w0];exact a,fun hk=>b (g1.fx r hk),c,d⟩
  ·obtain ⟨a,b,c,d⟩:=h1 r hr
   exact ⟨a,b,g.fx r c,by rw[g.kp.block r c];exact d⟩
def eQ (G:A7) (N:Nat) (s0:St) (μ:Mu) (ds:List Deferred) (fr:Fr) (s:St) (K:Act->World->Prop):Prop:=
 ∀ G' ms μ' a w,PC G G'->jN G G' ms->Y9 s0 μ s μ'->J4 μ' fr a.tmps->a.tmps.size=N->a.defers=ms++ds->G5 G' μ' s w->K a w
theorem eQ.next {G1:A7} {s0 s1:St} {μ1:Mu} {ds ds1 m1:List Deferred} {K:Act->World->Prop} (h:eQ G N s0 μ ds fr s K) (g:PC G G1) (m:jN G G1 m1) (h0:Y9 s0 μ s1 μ1) (hd:ds1=m1++ds):eQ G1 N s1 μ1 ds1 fr s K:=
 fun G2 m2 μ2 a2 w2 g2 k2 h8 hf hN h9 hr=>h G2 (m2++m1) μ2 a2 w2 (g.trans g2) (m.trans g g2 k2) (h0.trans h8) hf hN (by rw[h9,hd,bL9]) hr
theorem eQ.after {s0:St} {ds:List Deferred} {K:Act->World->Prop} (h:eQ G N s0 μ ds fr s K) (hr:G5 G μ s0 w):pY G N s0 μ ds fr s K:=
 fun μ' a w' h0 hf hN hd hc=>h G [] μ' a w' (PC.refl hr.le) (jN.nil G) h0 hf hN (by simpa using hd) hc
theorem v8.next {G1:A7} {μ1:Mu} (hE:v8 P E G.w0 μ) (g:PC G G1) (h:Mu.le μ μ1):v8 P E G1.w0 μ1:=by rw[g.w0];exact hE.mono h
theorem wF {ro:Option Nat} {Q:Exit->Act->World->Prop} {c:Code} (f:Fr->St->Option (Ex × Fr × St)) (ex:Ex)
  (h3:∀ (G:A7) (fr:Fr) (s:St) (μ:Mu) (a:Act) (w:World) (Q':Exit->Act->World->Prop) (e1:Ex) (fr1:Fr) (s1:St),v8 P E G.w0 μ->f fr s=some (e1,fr1,s1)->J4 μ fr a.tmps->a.tmps.size=N->G5 G μ s w->
   eQ G N s μ a.defers fr1 s1 (Q' (MN e1))->c.wpIn (FW ro) 0 P Q' a w):
  ∀ (n:Nat) (G:A7) (fr:Fr) (s:St) (μ:Mu) (a:Act) (w:World),v8 P E G.w0 μ->iter f n fr s=some (ex,fr',s')->J4 μ fr a.tmps->a.tmps.size=N->G5 G μ s w->
  eQ G N s μ a.defers fr' s' (Q (MN ex))->Code.roundsIn (FW ro) 0 P c Q n a w
 |0,G,fr,s,μ,a,w,_,h,_,_,_,_=>by simp[iter] at h
 |n+1,G,fr,s,μ,a,w,hE,h,hf,hN,hr,hQ=>by
  rw[roundsIn_succ]
  simp only[iter] at h
  split at h
  ·rename_i fr1 s1 h1
   refine h3 G fr s μ a w _ .normal fr1 s1 hE h1 hf hN hr fun G1 ms μ1 a1 w1 g1 mk h0 h4 h5 h6 h7=>?_
   exact wF f ex h3 n G1 fr1 s1 μ1 a1 w1 (hE.next g1 h0.le) h h4 h5 h7 (hQ.next g1 mk h0 h6)
  ·rename_i r he
   have hg:ex ≠ .normal:=by
    intro e
    subst e
    exact he fr' s' h
   refine h3 G fr s μ a w _ ex fr' s' hE h hf hN hr fun G1 ms μ1 a1 w1 g1 mk h0 h4 h5 h6 h7=>?_
   have:=hQ G1 ms μ1 a1 w1 g1 mk h0 h4 h5 h6 h7
   cases ex with
   |normal=>exact absurd rfl hg
   |exit id=>exact this
   |ret=>exact this
theorem aS5 (k:List Nat) (b:AC) (fr:Fr) (s:St):C7 E (.loop k b) fr s=iter (fun fr s=>C7 E b (u9 k fr) s) E.rounds fr s:=by simp[C7]
end Go.Itp
namespace Go.Itp
open Go.RowKit (Below)
set_option linter.unusedSimpArgs false
variable {P:Program} {E:G3} {G:A7} {μ:Mu} {s s':St} {w:World} {o:Oper} {a:Act} {fr fr':Fr} {v:Value} {bs:List A0} {N:Nat}
theorem kV {h:o7} {d c:Nat} (e:oZ h d c=true):∃ b,i7 h d=some b/\b.esz=0/\b.grow=true/\b.ty=c:=by
 unfold oZ at e
 split at e
 ·rename_i b hb
  rw[aO3,aO3] at e
  exact ⟨b,hb,j9.1 e.1.1,e.1.2,j9.1 e.2⟩
 ·cases e
theorem G5.record (hr:G5 G μ s w) {d:Nat} {b:A0} (hb:i7 s.heap d=some b) (hz:b.esz=0) (hg:b.grow=true) {l:ES} (hl:μ d=some l) {D:Go.Loop} (hD:l.dat=some D):
  w.heap[l.blk]? =some (.loop (R5 D b.ty)):=by
 obtain ⟨l',l1,l2,l3,arr,fz,h7,_⟩:=hr.blk d b hb
 rw[hl] at l1
 cases l1
 rcases h7 with ⟨_,_,⟨g4,_⟩|⟨_,D',g5,h⟩⟩|⟨h8,_⟩
 ·rw[hg] at g4;cases g4
 ·rw[hD] at g5;cases g5;exact h
 ·exact absurd hz h8
theorem G5.setRec (hr:G5 G μ s w) {d:Nat} {b:A0} (hb:i7 s.heap d=some b) (hz:b.esz=0) (hp:s.prot<=d) {l:ES} (hl:μ d=some l) {D:Go.Loop} (hD:l.dat=some D) (c:Nat):
  G5 G μ {s with heap:=L6 s.heap d (D6 c)} (w.putObj l.blk (.loop (R5 D c))):=by
 obtain ⟨l',l1,l2,l3,l4⟩:=hr.blk d b hb
 rw[hl] at l1
 cases l1
 have gk:=l4.lt
 have g6:l.off=0:=by
  obtain ⟨arr,fz,h7,_,_,h4,_⟩:=l4
  rcases h7 with ⟨_,rfl,_⟩|⟨h8,_⟩
  ·have h0:(#[]:Array Value).size=0:=rfl
   rw[h0] at h4;omega
  ·exact absurd hz h8
 have h3:∀ k,k ≠ l.blk->(w.putObj l.blk (.loop (R5 D c))).heap[k]? =w.heap[k]? :=fun k hk=>World.putObj_heap_other hk
 refine ⟨hr.b0.trans ⟨rfl,rfl,rfl,by simp,fun k hk=>h3 k (by omega)⟩,hr.bp.trans ⟨rfl,rfl,rfl,by simp,fun k hk=>h3 k (fun e=>l3 hp (e▸hk))⟩,hr.le,?_,?_,by rw[P8];exact hr.nd,by rw[P8];exact hr.lt,hr.dom,hr.pr⟩
 ·intro j e hj
  simp only at hj
  rw[P6 _ _ _ _ _ hb] at hj
  split at hj
  ·rename_i h9
   subst h9
   cases hj
   refine ⟨l,hl,l2,l3,#[],(0,0),.inl ⟨rfl,rfl,.inr ⟨rfl,D,hD,World.putObj_heap_same gk⟩⟩,fun o _ _=>by simp,fun j v hj=>by simp[D6] at hj,?_,?_,fun hg=>(by cases hg)⟩
   ·simp[D6,g6]
   ·intro _;simp[D6,g6]
  ·rename_i h9
   obtain ⟨m,m1,m2,m3,m4⟩:=hr.blk j e hj
   exact ⟨m,m1,m2,m3,m4.mono (Mu.le_refl μ) (h3 _ (hr.sep j d e b m l hj hb h9 m1 hl))⟩
 ·intro j k e f p q hj hk gl gm gn
  simp only at hj hk
  rw[P6 _ _ _ _ _ hb] at hj hk
  have e1:∃ c',i7 s.heap j=some c':=by split at hj;(rename_i e;subst e;exact ⟨_,hb⟩);exact ⟨_,hj⟩
  obtain ⟨c',go⟩:=e1
  have e2:∃ d',i7 s.heap k=some d':=by split at hk;(rename_i e;subst e;exact ⟨_,hb⟩);exact ⟨_,hk⟩
  obtain ⟨d',gp⟩:=e2
  exact hr.sep j k c' d' p q go gp gl gm gn
theorem G5.putDead (hr:G5 G μ s w) {k:Nat} (o:Obj) (h0:G.w0.heap.size<=k) (hf:¬ G.fx k) (hd:∀ i b l,i7 s.heap i=some b->μ i=some l->l.blk ≠ k):G5 G μ s (w.putObj k o):=by
 have h3:∀ j,j ≠ k->(w.putObj k o).heap[j]? =w.heap[j]? :=fun j hj=>World.putObj_heap_other hj
 refine ⟨hr.b0.trans ⟨rfl,rfl,rfl,by simp,fun j hj=>h3 j (by omega)⟩,hr.bp.trans ⟨rfl,rfl,rfl,by simp,fun j hj=>h3 j (fun e=>hf (e▸hj))⟩,hr.le,fun i b e=>?_,hr.sep,hr.nd,hr.lt,hr.dom,hr.pr⟩
 obtain ⟨l,l1,l2,l3,l4⟩:=hr.blk i b e
 exact ⟨l,l1,l2,l3,l4.mono (Mu.le_refl μ) (h3 _ (hd i b l e l1))⟩
theorem HD:∀ (ps:List Nat) (vs:List Value) (fr:Fr) (tmps:Array Value) (cs:List Value) {fr1:Fr},vZ fr ps vs=some fr1->J4 μ fr tmps->tmps.size=N->(∀ t ∈ ps,t<N)->G4 μ vs=some cs->
  J4 μ fr1 ((ps.zip cs).foldl (fun tmps (x:Nat × Value)=>tmps.setIfInBounds x.1 x.2) tmps)/\((ps.zip cs).foldl (fun tmps (x:Nat × Value)=>tmps.setIfInBounds x.1 x.2) tmps).size=N/\cs.length=ps.length
 | [],[],fr,tmps,cs,fr1,h,hf,hN,_,ht=>by
  simp[vZ] at h;subst h
  simp[G4] at ht;subst ht
  exact ⟨hf,hN,rfl⟩
 | [],_::_,fr,tmps,cs,fr1,h,_,_,_,_=>by simp[vZ] at h
 |_::_,[],fr,tmps,cs,fr1,h,_,_,_,_=>by simp[vZ] at h
 |t::ps,v::vs,fr,tmps,cs,fr1,h,hf,hN,hp,ht=>by
  simp only[G4,aG3,aG4] at ht
  obtain ⟨c,hc,cs',gq,rfl⟩:=ht
  simp only[vZ] at h
  have:=HD ps vs (tO fr t v) (tmps.setIfInBounds t c) cs' h (hf.put (by rw[hN];exact hp t (by simp)) hc) (by simp[hN]) (fun u hu=>hp u (by simp[hu])) gq
  simp only[List.zip_cons_cons,List.foldl_cons,bK2]
  exact ⟨this.1,this.2.1,by rw[this.2.2]⟩
def HZ:Ex->Option Code
 | .normal=>none
 | .ret=>some .ret
 | .exit id=>some (.exit id)
theorem ZV (D:Go.Loop) (c:Nat) (e:Ex):({R5 D c with state:=if (HZ e).isNone then .ready else .done,pending:=HZ e}:Go.Loop)=R5 D (kJ e):=by
 cases e<;>rfl
theorem OD {l:Nat} {R:Ending->World->Prop} {e:Ex} {a:Act} {w w':World} {v:Value} (h:(Instr.endRound l (HZ e)).run P w= .ok v w') (hR:R (.returned v) w'):roundPost P l R (MN e) a w:=by
 cases e with
 |normal=>exact ⟨v,w',h,hR⟩
 |ret=>exact ⟨v,w',h,hR⟩
 |exit id=>exact ⟨v,w',h,hR⟩
def LF (P:Program) (E:G3) (N:Nat) (c:Code) (x:AC):Prop:=
 ∀ (l:Nat) (G:A7) (fr:Fr) (s:St) (μ:Mu) (a:Act) (w:World) (Q:Exit->Act->World->Prop) (ex:Ex) (fr':Fr) (s':St),
  v8 P E G.w0 μ->C7 E x fr s=some (ex,fr',s')->J4 μ fr a.tmps->a.tmps.size=N->G5 G μ s w->eQ G N s μ a.defers fr' s' (Q (MN ex))->c.wpIn (FW (some l)) 0 P Q a w
theorem cB8 {w0:World} {m:Mu} {d:Nat} (hE:v8 P E w0 m) {D:Go.Loop} {x y:AC} (hx:LF P E N D.assign x) (hy:LF P E N D.body y) {l:ES} (hl:m d=some l) (hD:l.dat=some D)
  (hf:J4 m fr D.tmps) (hN:D.tmps.size=N) (hp:∀ t ∈ D.params.toList,t<N):hM P w0 m d (lU (C7 E x) (C7 E y) fr D.params.toList d):=by
 intro xs s v s' h G μ w cs hG ha hr gr
 unfold lU at h
 split at h
 case isFalse=>cases h
 rename_i hc
 rw[aO3,bA2] at hc
 obtain ⟨g7,gs⟩:=hc
 obtain ⟨b,hb,bz,bg,bt⟩:=kV gs
 simp only[aG3] at h
 obtain ⟨fr1,gu,⟨e0,fr2,s2⟩,gw,h⟩:=h
 have hlμ:=ha _ _ hl
 refine ⟨l,hlμ,?_⟩
 intro ro o a next Q k
 have hn:=hr.record hb bz bg hlμ hD
 have ho:=HD D.params.toList xs fr D.tmps cs gu (hf.mono ha) hN hp gr
 rw[run_yield hn (by simpa [R5] using ho.2.2),Oper.uponIn_round]
 refine ⟨yB,roundIn_of_wpIn (jZ ro _) ?_⟩
 have gx:((R5 D b.ty).params.zip cs.toArray).foldl (fun tmps (t,a)=>tmps.setIfInBounds t a) (R5 D b.ty).tmps=(D.params.toList.zip cs).foldl (fun tmps (x:Nat × Value)=>tmps.setIfInBounds x.1 x.2) D.tmps:=by
  rw[<- Array.foldl_toList]
  simp[R5]
 rw[gx]
 cases e0 with
 |exit i=>cases h
 |ret=>cases h
 |normal=>?_
 simp only at h
 split at h
 case isFalse=>cases h
 rename_i gy
 simp only[aG3] at h
 obtain ⟨⟨e,fr3,s3⟩,gz,h⟩:=h
 split at h
 case isFalse=>cases h
 rename_i j0
 simp only[aJ7,aS6] at h
 obtain ⟨hv,g8⟩:=h
 obtain ⟨b2,g9,b2z,b2g,b2t⟩:=kV gy
 obtain ⟨b3,ga,b3z,b3g,b3t⟩:=kV j0
 have hEμ:v8 P E G.w0 μ:=by rw[hG];exact hE.mono ha
 refine hx l.blk G fr1 s μ _ w _ .normal fr2 s2 hEμ gw ho.1 ho.2.1 hr ?_
 intro G1 ms μ1 a1 w1 g1 mk ext1 j1 j2 jn h2
 have hq:=ext1.le _ _ hlμ
 have j3:=h2.record g9 b2z b2g hq hD
 have j4:s2.prot<=d:=by rw[h2.pr,g1.pr,<- hr.pr];exact g7
 refine ⟨_,run_beginRound j3 (by rw[b2t];rfl),?_⟩
 have hs:=h2.setRec g9 b2z j4 hq hD 1
 have heq:({R5 D b2.ty with state:= .busy}:Go.Loop)=R5 D 1:=by rw[b2t];rfl
 rw[heq]
 refine hy l.blk G1 fr2 _ μ1 a1 _ _ e fr3 s3 (hEμ.next g1 ext1.le) gz j1 j2 hs ?_
 intro G2 ms2 μ2 a2 w2 g2 mk2 ext2 jo jp jq hw
 have gb:=ext2.le _ _ hq
 have j5:=hw.record ga b3z b3g gb hD
 have j6:s3.prot<=d:=by rw[hw.pr,g2.pr,g1.pr,<- hr.pr];exact g7
 have h6:=run_endRound (P:=P) (HZ e) j5
 rw[ZV] at h6
 refine OD h6 ?_
 have j7:=(hw.setRec ga b3z j6 gb hD (kJ e)).down (g1.trans g2)
 refine k _ _ ⟨μ2,?_,?_,?_⟩
 ·rw[<- g8]
  exact Y9.trans ext1 (Y9.trans (Y9.of ext2 rfl) (Y9.same μ2 rfl))
 ·rw[<- hv];cases e<;>rfl
 ·rw[<- g8];exact j7
theorem bP5 {g:Operand} {ps:Array Nat} {xa xb:Code} {x y:AC} {k:List Nat} {Q:Exit->Act->World->Prop} {ex:Ex} (hg:n4 g=true) (j8:∀ t ∈ ps.toList,t<N) (hx:LF P E N xa x) (hy:LF P E N xb y)
  (hE:v8 P E G.w0 μ) (he:C7 E (.rangeF g ps.toList k x y) fr s=some (ex,fr',s')) (hf:J4 μ fr a.tmps) (hN:a.tmps.size=N) (hr:G5 G μ s w) (hQ:eQ G N s μ a.defers fr' s' (Q (MN ex))):
  (Code.rangeFunc g ps xa xb).wpIn (FW none) 0 P Q a w:=by
 simp only[C7,aG3] at he
 obtain ⟨gv,ja,⟨f,xs⟩,jb,⟨v,s2⟩,jc,b,hb,he⟩:=he
 split at he
 case isFalse=>cases he
 rename_i g0
 rw[aO3] at g0
 have hz:=j9.1 g0.1
 simp only[aG4,aS6] at he
 obtain ⟨e,hj,rfl,rfl,rfl⟩:=he
 refine wpIn_rangeFunc fun fn _=>?_
 let D:Go.Loop:={state:= .ready,pending:=none,fn,tmps:=a.tmps,params:=ps,assign:=xa,body:=xb,defers:=w.heap.size}
 let w1:World:=(w.alloc (.deferred (some []))).alloc (.loop D)
 let l:ES:=⟨w.heap.size+1,0,0,some D⟩
 let μ1:Mu:=μ.set s.next l
 have jd:w1.heap.size=w.heap.size+2:=by simp only[w1,World.size_alloc]
 have gc:∀ i,i<w.heap.size->w1.heap[i]? =w.heap[i]? :=fun i hi=>by
  simp only[w1,World.alloc]
  rw[Array.getElem?_push,aQ4 (by simp;omega),Array.getElem?_push,aQ4 (by omega)]
 have je:w1.heap[w.heap.size]? =some (.deferred (some [])):=by
  simp only[w1,World.alloc]
  rw[Array.getElem?_push,aQ4 (by simp),Array.getElem?_push,aO9 rfl]
 have jf:w1.heap[w.heap.size+1]? =some (.loop D):=by
  simp only[w1,World.alloc]
  rw[Array.getElem?_push,aO9 (by simp)]
 have hD:(D:Go.Loop)=R5 D 0:=rfl
 obtain ⟨h2,h5⟩:=hr.adopt l (D6 0) w1 ⟨#[],(0,0),.inl ⟨rfl,rfl,.inr ⟨rfl,D,rfl,by rw[<- show D=R5 D (D6 0).ty from rfl];exact jf⟩⟩,fun o _ _=>by simp,fun j v hj=>by simp[D6] at hj,by simp[D6,l],fun _=>by simp[D6,l],fun hg=>(by cases hg)⟩
  (by have:=hr.size0;show G.w0.heap.size<=w.heap.size+1;omega) (fun hk=>by have:=hr.fxlt hk;simp only[l] at this;omega)
  (fun i c m ei hm he=>by
   obtain ⟨m',gd,_,_,jg⟩:=hr.blk i c ei
   rw[hm] at gd;cases gd
   have:=jg.lt
   rw[he] at this
   simp only[l] at this;omega) rfl rfl rfl (by omega) (fun i hi _=>gc i hi)
 let G1:A7:=⟨G.w0,w1,G.pr,fun i=>G.fx i\/i=w.heap.size,fun i hi=>by
  rw[jd]
  rcases hi with hi|hi
  ·have:=hr.fxlt hi;omega
  ·omega⟩
 have g1:PC G G1:=⟨rfl,rfl,fun i hi=> .inl hi,hr.bp.trans ⟨rfl,rfl,rfl,by show w.heap.size<=w1.heap.size;omega,fun i hi=>gc i (hr.fxlt hi)⟩,hr.le⟩
 have hs:G5 G1 μ1 (s.push [D6 0]) w1:=by
  refine ⟨h2.b0,O1.refl _ _,by have:=hr.size0;show G.w0.heap.size<=w1.heap.size;omega,fun i c ei=>?_,h2.sep,h2.nd,h2.lt,h2.dom,h2.pr⟩
  obtain ⟨q,q1,q2,q3,q4⟩:=h2.blk i c ei
  refine ⟨q,q1,q2,fun hp hk=>?_,q4⟩
  rcases hk with hk|hk
  ·exact q3 hp hk
  ·rw[bL,p7] at ei
   split at ei
   ·rename_i hi
    subst hi
    have:q=l:=by have:=q1;rw[show (μ.set s.next l) s.next=some l from Mu.set_same] at this;exact (Option.some.inj this).symm
    subst this
    simp only[l] at hk;omega
   ·rename_i hi
    obtain ⟨q',p1,_,_,p4⟩:=hr.blk i c ei
    have:=h5 _ _ p1
    rw[q1] at this;cases this
    have:=p4.lt
    omega
 have hμd:μ1 s.next=some l:=Mu.set_same
 have jh:G4 μ1 [Value.chan (some s.next)]=some [.func (.yield (w.heap.size+1)) #[] #[]]:=by
  simp[G4,tr,hμd,l]
 obtain ⟨lf,mf,e1,e2⟩:=oV jb (N1 h5 _ (u5 hf hg ja)) jh
 have hh:hM P G.w0 μ1 s.next (lU (C7 E x) (C7 E y) (u9 k fr) ps.toList s.next):=
  cB8 (D:=D) (l:=l) (hE.mono h5) hx hy hμd rfl ((hf.mono h5).keep k) hN j8
 obtain ⟨gf,ji⟩:=hE.r _ _ _ _ _ _ _ jc μ1 h5 hh G1 μ1 w1 _ rfl (Mu.le_refl _) hs e2
 refine ⟨w.heap.size+1,[AY w.heap.size],w1,{target:= .fn (.func f) ⟨mf⟩,args:=⟨lf⟩++#[.func (.yield (w.heap.size+1)) #[] #[]]},w1,f,(lf++ [Value.func (.yield (w.heap.size+1)) #[] #[]]++mf).toArray,w1,?_,?_,fun f' _=>jZ none f',?_,yB,oT.2 (ji.mono fun en w3 ⟨c,jj,hW⟩=>?_)⟩
 ·exact run_enterLoop_outer fn a.tmps ps xa xb
 ·simp only[resolve]
  rw[e1]
  simp[Deferred.ofValue,Act.eval]
 ·have:(lf++ [Value.func (.yield (w.heap.size+1)) #[] #[]]++mf).toArray=(⟨lf⟩:Array Value)++#[.func (.yield (w.heap.size+1)) #[] #[]]++⟨mf⟩:=by apply cZ6;simp
  rw[this] at gf ⊢
  simpa [invoke] using gf
 ·subst jj
  obtain ⟨μ3,x1,x2,x3⟩:=hW
  have gg:=x1.le _ _ hμd
  have hn:=x3.record hb hz g0.2 gg (D:=D) rfl
  have jk:(R5 D b.ty).state ≠ .busy:=by
   intro gh
   have:b.ty ≠ 1:=fun h1=>by rw[h1] at hj;cases hj
   generalize b.ty=t at*
   match t with
   |0=>cases gh
   |1=>exact this rfl
   |t+2=>cases gh
  have h6:=run_endLoop (P:=P) hn jk
  have jl:(R5 D b.ty).pending=HZ e:=by
   generalize b.ty=t at*
   match t,hj with
   |0,hj=>cases hj;rfl
   |1,hj=>cases hj
   |2,hj=>cases hj;rfl
   |t+3,hj=>cases hj;rfl
  obtain ⟨w4,gi⟩:∃ w4,w4=w3.putObj (w.heap.size+1) (.loop {R5 D b.ty with state:= .exhausted}):=⟨_,rfl⟩
  refine ⟨HZ e,w4,by rw[gi,<- jl];exact h6,?_⟩
  have J1:G5 G1 μ3 {s2 with heap:=J1 s2.heap s.next} w4:=by
   rw[gi]
   refine (x3.del s.next).putDead _ (by have:=hr.size0;show G.w0.heap.size<=w.heap.size+1;omega) (fun hk=>?_) (fun i c m ei hm he=>?_)
   ·rcases hk with hk|hk
    ·have:=hr.fxlt hk;omega
    ·omega
   ·obtain ⟨jm,hi⟩:=cS _ _ x3.nd i c ei
    exact x3.sep i s.next c b m l hi hb jm hm gg (by simpa [l] using he)
  have g3:Q (MN e) {a with defers:= [AY w.heap.size]++a.defers} w4:=by
   refine hQ G1 [AY w.heap.size] μ3 _ _ g1 ⟨[w.heap.size],rfl,by simp,fun r gj=>?_⟩ ?_ ?_ hN rfl J1
   ·simp only[cZ2] at gj
    subst gj
    exact ⟨hr.size0,hr.fxnew,.inr rfl,je⟩
   ·exact Y9.trans (Y9.push h5) (Y9.trans x1 (Y9.same μ3 rfl))
   ·exact (hf.mono (Mu.le_trans h5 x1.le)).keep k
  cases e with
  |normal=>exact g3
  |ret=>exact wpIn_ret g3
  |exit id=>exact wpIn_exit g3
end Go.Itp
namespace Go.Itp
open Go.RowKit (Below)
set_option linter.unusedSimpArgs false
variable {P:Program} {E:G3} {G:A7} {μ:Mu} {s s':St} {w:World} {o:Oper} {a:Act} {fr fr':Fr} {v:Value} {bs:List A0} {N:Nat}
theorem cB2:∀ (c:Code) (ac0 ac:AC),I7 P N c ac0=some ac->∀ (ro:Option Nat) (_:ro=none\/IP ac=true) (G:A7) (fr:Fr) (s:St) (μ:Mu) (a:Act) (w:World) (Q:Exit->Act->World->Prop) (ex:Ex) (fr':Fr) (s':St),
  v8 P E G.w0 μ->C7 E ac fr s=some (ex,fr',s')->J4 μ fr a.tmps->a.tmps.size=N->G5 G μ s w->eQ G N s μ a.defers fr' s' (Q (MN ex))->c.wpIn (FW ro) 0 P Q a w:=by
 intro c
 induction c with
 |skip=>
  intro ac0 ac h ro h0 G fr s μ a w Q ex fr' s' hE he hf hN hr hQ
  simp[I7] at h;subst h
  simp[C7] at he
  obtain ⟨rfl,rfl,rfl⟩:=he
  exact wpIn_skip (hQ G [] μ a w (PC.refl hr.le) (jN.nil G) (Y9.refl s μ) hf hN rfl hr)
 |region id ops d=>
  intro ac0 ac h ro h0 G fr s μ a w Q ex fr' s' hE he hf hN hr hQ
  cases d with
  |true=>
   cases ac0 with
   |bad=>simp[I7] at h;subst h;simp[C7] at he
   |draw p t hd k=>
    simp only[I7] at h
    have h8:ex= .normal:=by
     simp only[qI,aG3] at h
     obtain ⟨al,_,h⟩:=h
     split at h
     case isFalse=>cases h
     cases h
     simp only[C7,aG3,aG4,aS6] at he
     obtain ⟨_,_,_,_,e,_⟩:=he
     exact e.symm
    subst h8
    exact (cA5 h hE he hf hN hr (hQ.after hr)).2
   |drawW p t k=>
    simp only[I7] at h
    have h8:ex= .normal:=by
     simp only[mQ,aG3] at h
     obtain ⟨al,_,h⟩:=h
     split at h
     case isFalse=>cases h
     cases h
     simp only[C7,aG3,aG4,aS6] at he
     obtain ⟨_,_,_,_,e,_⟩:=he
     exact e.symm
    subst h8
    exact (bG0 h hE he hf hN hr (hQ.after hr)).2
   |_=>simp[I7] at h
  |false=>
   cases ac0<;>simp[I7] at h
   case bad=>subst h;simp[C7] at he
   case ops l0 k=>
    obtain ⟨al,hg,rfl⟩:=h
    simp only[C7,aG4] at he
    obtain ⟨⟨fr1,s1⟩,he,e⟩:=he
    simp only[aS6] at e
    obtain ⟨rfl,rfl,rfl⟩:=e
    refine wpIn_region ?_
    have:=uK (ro:=ro) (Q:=Q) ops.toList al 0 fr s μ a w hE (fun j=>by simp) hg he hf hN hr (fun μ2 a2 w2 h1 h9=>hQ.after hr μ2 a2 w2 h1 (h9.keep k))
    rw[List.range_eq_range']
    simpa using this
 |seq x y ihx ihy=>
  intro ac0 ac h ro h0 G fr s μ a w Q ex fr' s' hE he hf hN hr hQ
  cases ac0 with
  |bad=>simp[I7] at h;subst h;simp[C7] at he
  |seq x0 y0=>
   simp only[I7,aG3,aG4] at h
   obtain ⟨x1,hx,y1,hy,rfl⟩:=h
   have ha:ro=none\/IP x1=true:=h0.imp id fun e=>by simp[IP] at e;exact e.1
   have hh:ro=none\/IP y1=true:=h0.imp id fun e=>by simp[IP] at e;exact e.2
   simp only[C7,aG3] at he
   obtain ⟨r,h3,he⟩:=he
   refine wpIn_seq ?_
   split at he
   ·rename_i fr1 s1
    refine ihx x0 x1 hx ro ha G fr s μ a w _ .normal fr1 s1 hE h3 hf hN hr fun G1 ms μ1 a1 w1 g1 mk h1 h4 h5 h6 h3=>?_
    exact ihy y0 y1 hy ro hh G1 fr1 s1 μ1 a1 w1 Q ex fr' s' (hE.next g1 h1.le) he h4 h5 h3 (hQ.next g1 mk h1 h6)
   ·rename_i hj
    cases he
    refine ihx x0 x1 hx ro ha G fr s μ a w _ ex fr' s' hE h3 hf hN hr fun G1 ms μ1 a1 w1 g1 mk h1 h4 h5 h6 h3=>?_
    have:=hQ G1 ms μ1 a1 w1 g1 mk h1 h4 h5 h6 h3
    cases ex with
    |normal=>exact absurd rfl (hj fr' s')
    |exit id=>exact this
    |ret=>exact this
  |_=>simp[I7] at h
 |cond c t e iht ihe=>
  intro ac0 ac h ro h0 G fr s μ a w Q ex fr' s' hE he hf hN hr hQ
  cases ac0 with
  |bad=>simp[I7] at h;subst h;simp[C7] at he
  |cond c0 t0 e0=>
   simp only[I7] at h
   split at h
   case isFalse=>cases h
   rename_i hc
   simp only[aG3,aG4] at h
   obtain ⟨t1,ht,e1,hk,rfl⟩:=h
   simp only[C7,aG3] at he
   obtain ⟨u,hu,he⟩:=he
   split at he
   case h_2=>cases he
   rename_i b
   have hb:=jJ (u5 hf hc hu)
   have hl:ro=none\/IP t1=true:=h0.imp id fun e=>by simp[IP] at e;exact e.1
   have hm:ro=none\/IP e1=true:=h0.imp id fun e=>by simp[IP] at e;exact e.2
   refine wpIn_cond hb ?_
   cases b
   ·exact ihe e0 e1 hk ro hm G fr s μ a w Q ex fr' s' hE (by simpa using he) hf hN hr hQ
   ·exact iht t0 t1 ht ro hl G fr s μ a w Q ex fr' s' hE (by simpa using he) hf hN hr hQ
  |_=>simp[I7] at h
 |block id b ih=>
  intro ac0 ac h ro h0 G fr s μ a w Q ex fr' s' hE he hf hN hr hQ
  cases ac0<;>simp[I7] at h
  case bad=>subst h;simp[C7] at he
  case block id0 b0=>
   obtain ⟨b1,hb,rfl⟩:=h
   simp only[C7,aG4] at he
   obtain ⟨⟨e1,fr1,s1⟩,h3,he⟩:=he
   refine wpIn_block (ih b0 b1 hb ro (h0.imp (fun e=>e) fun e=>by simpa [IP] using e) G fr s μ a w _ e1 fr1 s1 hE h3 hf hN hr fun G1 ms μ1 a1 w1 g1 mk h1 h4 h5 h6 h7=>?_)
   cases e1 with
   |normal=>
    simp only[aS6] at he
    obtain ⟨rfl,rfl,rfl⟩:=he
    exact hQ G1 ms μ1 a1 w1 g1 mk h1 h4 h5 h6 h7
   |ret=>
    simp only[aS6] at he
    obtain ⟨rfl,rfl,rfl⟩:=he
    exact hQ G1 ms μ1 a1 w1 g1 mk h1 h4 h5 h6 h7
   |exit i=>
    simp only at he
    split at he
    ·rename_i hi
     have ho:=j9.1 hi
     simp only[aS6] at he
     obtain ⟨rfl,rfl,rfl⟩:=he
     simp only[MN,Exit.inBlock,ho,if_true]
     exact hQ G1 ms μ1 a1 w1 g1 mk h1 h4 h5 h6 h7
    ·rename_i hi
     simp only[aS6] at he
     obtain ⟨rfl,rfl,rfl⟩:=he
     simp only[MN,Exit.inBlock]
     rw[aQ4 (fun e=>hi (j9.2 e))]
     exact hQ G1 ms μ1 a1 w1 g1 mk h1 h4 h5 h6 h7
 |loop b ih=>
  intro ac0 ac h ro h0 G fr s μ a w Q ex fr' s' hE he hf hN hr hQ
  cases ac0<;>simp[I7] at h
  case bad=>subst h;simp[C7] at he
  case loop k b0=>
   obtain ⟨b1,hb,rfl⟩:=h
   rw[aS5] at he
   refine wpIn_loop_rounds E.rounds (wF (N:=N) (E:=E) _ ex ?_ E.rounds G fr s μ a w hE he hf hN hr hQ)
   intro G2 fr2 s2 μ2 a2 w2 Q2 e2 fr3 s3 hp h2 h9 hq hs hv
   exact ih b0 b1 hb ro (h0.imp (fun e=>e) fun e=>by simpa [IP] using e) G2 (u9 k fr2) s2 μ2 a2 w2 Q2 e2 fr3 s3 hp h2 (h9.keep k) hq hs hv
 |rangeFunc g ps xa xb iha ihb=>
  intro ac0 ac h ro h0 G fr s μ a w Q ex fr' s' hE he hf hN hr hQ
  cases ac0 with
  |bad=>simp[I7] at h;subst h;simp[C7] at he
  |rangeF g0 ps0 k a0 b0=>
   simp only[I7] at h
   split at h
   case isFalse=>cases h
   rename_i hc
   rw[aO3] at hc
   simp only[aG3] at h
   obtain ⟨x,hx,y,hy,h⟩:=h
   split at h
   case isFalse=>cases h
   rename_i hn
   rw[aO3] at hn
   cases h
   have hw:ro=none:=by
    rcases h0 with e|e
    ·exact e
    ·simp[IP] at e
   subst hw
   exact bP5 hc.1 (fun t ht=>by have:=bB3.1 hc.2 t ht;rwa [bA6] at this) (fun l G=>iha a0 x hx (some l) (.inr hn.1) G) (fun l G=>ihb b0 y hy (some l) (.inr hn.2) G) hE he hf hN hr hQ
  |_=>simp[I7] at h
 |exit id=>
  intro ac0 ac h ro h0 G fr s μ a w Q ex fr' s' hE he hf hN hr hQ
  simp[I7] at h;subst h
  simp[C7] at he
  obtain ⟨rfl,rfl,rfl⟩:=he
  exact wpIn_exit (hQ G [] μ a w (PC.refl hr.le) (jN.nil G) (Y9.refl s μ) hf hN rfl hr)
 |scope b _=>
  intro ac0 ac h ro h0 G fr s μ a w Q ex fr' s' hE he hf hN hr hQ
  cases ac0<;>simp[I7] at h
  subst h;simp[C7] at he
 |label l=>
  intro ac0 ac h ro h0 G fr s μ a w Q ex fr' s' hE he hf hN hr hQ
  cases ac0<;>simp[I7] at h
  subst h;simp[C7] at he
 |goto l=>
  intro ac0 ac h ro h0 G fr s μ a w Q ex fr' s' hE he hf hN hr hQ
  cases ac0<;>simp[I7] at h
  subst h;simp[C7] at he
 |ret=>
  intro ac0 ac h ro h0 G fr s μ a w Q ex fr' s' hE he hf hN hr hQ
  simp[I7] at h;subst h
  simp[C7] at he
  obtain ⟨rfl,rfl,rfl⟩:=he
  exact wpIn_ret (hQ G [] μ a w (PC.refl hr.le) (jN.nil G) (Y9.refl s μ) hf hN rfl hr)
 |refuse y=>
  intro ac0 ac h ro h0 G fr s μ a w Q ex fr' s' hE he hf hN hr hQ
  cases ac0<;>simp[I7] at h
  subst h;simp[C7] at he
end Go.Itp
namespace Go.Itp
open Go.RowKit (Below)
set_option linter.unusedSimpArgs false
variable {P:Program} {E:G3} {G:A7} {μ:Mu} {s s':St} {w:World} {a:Act} {fr fr':Fr} {v:Value} {bs:List A0} {N:Nat}
section
variable {n0:Nat} {f:Nat->Nat} {μ ν:Mu}
def eA (_n0:Nat) (f:Nat->Nat) (μ ν:Mu) (i:Nat):Prop:=ν (f i)=μ i
theorem OP (h0:∀ i,i<n0->eA n0 f μ ν i) {p:Option Addr} (h:∀ i ∈ r6 n0 p,eA n0 f μ ν i):U2 ν (J5 f p)=U2 μ p/\∀ c,cA ν (J5 f p) c=cA μ p c:=by
 rcases p with _|⟨b,o,_|k⟩
 ·exact ⟨rfl,fun _=>rfl⟩
 ·exact ⟨rfl,fun _=>rfl⟩
 ·have hb:eA n0 f μ ν b:=by
   by_cases hn:n0<=b
   ·exact h b (by simp only[r6];rw[aO9 (by rw[bA2];exact hn)];simp)
   ·exact h0 b (by omega)
  unfold eA at hb
  exact ⟨by simp[J5,U2,hb],fun c=>by simp[J5,cA,hb]⟩
mutual
theorem OQ (h0:∀ i,i<n0->eA n0 f μ ν i):∀ (v:Value),(∀ i ∈ x9 n0 v,eA n0 f μ ν i)->tr ν (U0 f v)=tr μ v
 | .pointer p,h=>by simp only[x9] at h;simp[U0,tr,(OP h0 h).1]
 | .slice p n c,h=>by simp only[x9] at h;simp[U0,tr,(OP h0 h).1,(OP h0 h).2]
 | .func fn ⟨x⟩ ⟨y⟩,h=>by
  simp only[x9,cB1] at h
  simp[U0,tr,sE h0 x fun i hi=>h i (.inl hi),sE h0 y fun i hi=>h i (.inr hi)]
 | .iface t v,h=>by simp only[x9] at h;simp[U0,tr,OQ h0 v h]
 | .agg ⟨l⟩,h=>by simp only[x9] at h;simp[U0,tr,sE h0 l h]
 | .tuple ⟨l⟩,h=>by simp only[x9] at h;simp[U0,tr,sE h0 l h]
 | .bool _,_=>rfl
 | .int _ _,_=>rfl
 | .float _ _,_=>rfl
 | .complex _ _ _,_=>rfl
 | .string _,_=>rfl
 | .map _,_=>rfl
 | .chan none,_=>rfl
 | .chan (some d),h=>by
  have hb:eA n0 f μ ν d:=by
   by_cases hn:n0<=d
   ·exact h d (by simp only[x9];rw[aO9 (by rw[bA2];exact hn)];simp)
   ·exact h0 d (by omega)
  unfold eA at hb
  simp[U0,tr,hb]
 | .nilFunc,_=>rfl
 | .nilIface,_=>rfl
theorem sE (h0:∀ i,i<n0->eA n0 f μ ν i):∀ (l:List Value),(∀ i ∈ B8 n0 l,eA n0 f μ ν i)->G4 ν (U9 f l)=G4 μ l
 | [],_=>rfl
 |v::r,h=>by
  simp only[B8,cB1] at h
  simp[U9,G4,OQ h0 v fun i hi=>h i (.inl hi),sE h0 r fun i hi=>h i (.inr hi)]
end
theorem eL:∀ (l:List Value),(U9 f l).length=l.length
 | []=>rfl
 |v::r=>by simp[U9,eL r]
end
section
variable {n0:Nat} {f:Nat->Nat}
theorem yF (hf:∀ i,i<n0->f i=i) {p:Option Addr} (h:r6 n0 p= []):J5 f p=p:=by
 rcases p with _|⟨b,o,_|k⟩
 ·rfl
 ·rfl
 ·simp only[r6] at h
  split at h
  ·cases h
  ·rename_i hn
   rw[bA2] at hn
   simp[J5,hf b (by omega)]
mutual
theorem lQ (hf:∀ i,i<n0->f i=i):∀ (v:Value),x9 n0 v= []->U0 f v=v
 | .pointer p,h=>by simp only[x9] at h;simp[U0,yF hf h]
 | .slice p n c,h=>by simp only[x9] at h;simp[U0,yF hf h]
 | .func fn ⟨x⟩ ⟨y⟩,h=>by
  simp only[x9,dL1] at h
  simp[U0,nF hf x h.1,nF hf y h.2]
 | .iface t v,h=>by simp only[x9] at h;simp[U0,lQ hf v h]
 | .agg ⟨l⟩,h=>by simp only[x9] at h;simp[U0,nF hf l h]
 | .tuple ⟨l⟩,h=>by simp only[x9] at h;simp[U0,nF hf l h]
 | .bool _,_=>rfl
 | .int _ _,_=>rfl
 | .float _ _,_=>rfl
 | .complex _ _ _,_=>rfl
 | .string _,_=>rfl
 | .map _,_=>rfl
 | .chan none,_=>rfl
 | .chan (some d),h=>by
  simp only[x9] at h
  split at h
  ·cases h
  ·rename_i hn
   rw[bA2] at hn
   simp[U0,hf d (by omega)]
 | .nilFunc,_=>rfl
 | .nilIface,_=>rfl
theorem nF (hf:∀ i,i<n0->f i=i):∀ (l:List Value),B8 n0 l= []->U9 f l=l
 | [],_=>rfl
 |v::r,h=>by
  simp only[B8,dL1] at h
  simp[U9,lQ hf v h.1,nF hf r h.2]
end
end
theorem yE {n0:Nat} {p:Option Addr}:∀ i ∈ r6 n0 p,n0<=i:=by
 intro i hi
 rcases p with _|⟨b,o,_|k⟩<;>simp only[r6] at hi
 ·cases hi
 ·cases hi
 ·split at hi
  ·rename_i h;rw[bA2] at h;simp at hi;omega
  ·cases hi
mutual
theorem tU {n0:Nat}:∀ (v:Value),∀ i ∈ x9 n0 v,n0<=i
 | .pointer p,i,h=>yE i (by simpa only[x9] using h)
 | .slice p n c,i,h=>yE i (by simpa only[x9] using h)
 | .func fn ⟨x⟩ ⟨y⟩,i,h=>by
  simp only[x9,cB1] at h
  exact h.elim (iX x i) (iX y i)
 | .iface t v,i,h=>tU v i (by simpa only[x9] using h)
 | .agg ⟨l⟩,i,h=>iX l i (by simpa only[x9] using h)
 | .tuple ⟨l⟩,i,h=>iX l i (by simpa only[x9] using h)
 | .bool _,i,h=>by simp[x9] at h
 | .int _ _,i,h=>by simp[x9] at h
 | .float _ _,i,h=>by simp[x9] at h
 | .complex _ _ _,i,h=>by simp[x9] at h;omega
 | .string _,i,h=>by simp[x9] at h
 | .map _,i,h=>by simp[x9] at h
 | .chan none,i,h=>by simp[x9] at h
 | .chan (some d),i,h=>by
  simp only[x9] at h
  split at h
  ·rename_i hn;rw[bA2] at hn;simp at h;omega
  ·cases h
 | .nilFunc,i,h=>by simp[x9] at h
 | .nilIface,i,h=>by simp[x9] at h
theorem iX {n0:Nat}:∀ (l:List Value),∀ i ∈ B8 n0 l,n0<=i
 | [],i,h=>by simp[B8] at h
 |v::r,i,h=>by
  simp only[B8,cB1] at h
  exact h.elim (tU v i) (iX r i)
end
theorem jF (n0:Nat) (h:o7):∀ (f:Nat) (todo done d:List Nat),bZ n0 h f todo done=some d->(∀ i ∈ todo,n0<=i)->done.Nodup->
  d.Nodup/\(∀ i ∈ done,i ∈ d)/\(∀ i ∈ todo,i ∈ d)/\(∀ i ∈ d,i ∈ done\/n0<=i/\∃ b,i7 h i=some b/\∀ j ∈ B8 n0 b.cells,j ∈ d)
 |f,[],done,d,e,_,hn=>by
  cases f<;>simp[bZ] at e<;>subst e<;>exact ⟨hn,fun _ hi=>hi,⟨fun _ hi=>(List.not_mem_nil hi).elim,fun _ hi=>O hi⟩⟩
 |0,_::_,done,d,e,_,_=>by simp[bZ] at e
 |f+1,i::todo,done,d,e,h9,hn=>by
  simp only[bZ] at e
  split at e
  ·rename_i hi
   rw[m7] at hi
   obtain ⟨h1,h2,h3,h4⟩:=jF n0 h f todo done d e (fun j hj=>h9 j (cR3 _ hj)) hn
   exact ⟨h1,h2,fun j hj=>by rcases bX5.1 hj with rfl|hj;exact h2 _ hi;exact h3 j hj,h4⟩
  ·rename_i hi
   rw[m7] at hi
   simp only[aG3] at e
   obtain ⟨b,hb,e⟩:=e
   obtain ⟨h1,h2,h3,h4⟩:=jF n0 h f _ (i::done) d e (fun j hj=>by
    rcases cB1.1 hj with hj|hj
    ·exact iX _ j hj
    ·exact h9 j (cR3 _ hj)) (dK3.2 ⟨hi,hn⟩)
   refine ⟨h1,fun j hj=>h2 j (cR3 _ hj),fun j hj=>?_,fun j hj=>?_⟩
   ·rcases bX5.1 hj with rfl|hj
    ·exact h2 _ dB6
    ·exact h3 j (cB1.2 (.inr hj))
   ·rcases h4 j hj with h5|h5
    ·rcases bX5.1 h5 with rfl|h5
     ·exact .inr ⟨h9 j dB6,b,hb,fun k hk=>h3 k (cB1.2 (.inl hk))⟩
     ·exact .inl h5
    ·exact .inr h5
theorem wQ {n0:Nat} {h:o7} {l d:List Nat} (e:lO n0 h l=some d):∃ f,bZ n0 h f l []=some d:=by
 unfold lO at e
 split at e
 ·rename_i d' hy;cases e;exact ⟨_,hy⟩
 ·exact ⟨_,e⟩
theorem dJ:∀ (l:List Nat) (i:Nat),i ∈ l->L9 i l<l.length/\l[L9 i l]? =some i
 | [],i,h=>by cases h
 |j::r,i,h=>by
  simp only[L9]
  by_cases ha:i=j
  ·rw[aO9 (j9.2 ha)];simp[ha]
  ·rw[aQ4 (by rw[j9];exact ha)]
   have:=dJ r i ((bX5.1 h).resolve_left ha)
   exact ⟨by simp[this.1],by simp only[List.getElem?_cons_succ];exact this.2⟩
theorem lK {n0:Nat} {h:o7} {ord:List Nat}:∀ (l:List Nat) {bs:List A0},bW n0 h ord l=some bs->bs.length=l.length/\
  ∀ (k i:Nat),l[k]? =some i->∃ b,i7 h i=some b/\bs[k]? =some {b with cells:=U9 (C9 n0 ord) b.cells}
 | [],bs,e=>by simp[bW] at e;subst e;simp
 |j::r,bs,e=>by
  simp only[bW,aG3,aG4] at e
  obtain ⟨b,hb,bs',hq,rfl⟩:=e
  obtain ⟨h1,h2⟩:=lK r hq
  refine ⟨by simp[h1],fun k i hk=>?_⟩
  cases k with
  |zero=>simp at hk;subst hk;exact ⟨b,hb,rfl⟩
  |succ k=>simp at hk;simpa using h2 k i hk
theorem G5.back {sf:St} {wf:World} {μf:Mu} (hr:G5 G μ s w) (hf:G5 (AA G.w0 w s.next) μf sf wf) (hl:Y9 s μ sf μf) {ord:List Nat} {bs:List A0} (hn:ord.Nodup)
  (hu:∀ i ∈ ord,s.next<=i/\∃ b,i7 sf.heap i=some b/\∀ j ∈ B8 s.next b.cells,j ∈ ord) (hb:bW s.next sf.heap ord ord=some bs) {v c:Value} (hv:tr μf v=some c) (hz:∀ i ∈ x9 s.next v,i ∈ ord):
  y8 G μ s w (U0 (C9 s.next ord) v) bs c wf:=by
 obtain ⟨b1,b2⟩:=lK ord hb
 have hp:sf.prot=s.next:=hf.pr
 let ν:Mu:=fun i=>if i<s.next then μ i else match ord[i - s.next]? with|some j=>μf j|none=>none
 have h0:∀ i,i<s.next->eA s.next (C9 s.next ord) μf ν i:=by
  intro i hi
  have e1:C9 s.next ord i=i:=by unfold C9;rw[aO9 (by rw[bA6];exact hi)]
  unfold eA
  rw[e1]
  show (if i<s.next then μ i else _)=μf i
  rw[aO9 hi]
  exact (hl.ag i hi).symm
 have hw:∀ i,i ∈ ord->eA s.next (C9 s.next ord) μf ν i:=by
  intro i hi
  have h9:=(hu i hi).1
  obtain ⟨k1,k2⟩:=dJ ord i hi
  have e1:C9 s.next ord i=s.next+L9 i ord:=by unfold C9;rw[aQ4 (by rw[bA6];omega)]
  unfold eA
  rw[e1]
  show (if s.next+L9 i ord<s.next then _ else match ord[s.next+L9 i ord - s.next]? with|some j=>μf j|none=>none)=μf i
  rw[aQ4 (by omega),show s.next+L9 i ord - s.next=L9 i ord by omega,k2]
 have hνle:Mu.le μ ν:=by
  intro i l h
  have hi:i<s.next:=by
   rcases cL3 i s.next with h'|h'
   ·exact h'
   ·rw[hr.dom i h'] at h;cases h
  show (if i<s.next then μ i else _)=some l
  rw[aO9 hi]
  exact h
 have hs:Below w.heap.size w wf:=hf.bp.below
 have hm:∀ i b,s.next<=i->i<s.next+bs.length->bs[i - s.next]? =some b->∃ j bj l,ord[i - s.next]? =some j/\i7 sf.heap j=some bj/\μf j=some l/\ν i=some l/\w.heap.size<=l.blk/\pZ ν wf l b:=by
  intro i b h1 h2 h3
  obtain ⟨j,hj⟩:∃ j,ord[i - s.next]? =some j:=by
   have:i - s.next<ord.length:=by omega
   exact ⟨_,cJ3 this⟩
  obtain ⟨bj,c1,c2⟩:=b2 _ j hj
  rw[h3] at c2
  have c2':=(Option.some.inj c2)
  have h8:=List.mem_of_getElem? hj
  obtain ⟨h9,bj',hx,g0⟩:=hu j h8
  rw[c1] at hx
  cases hx
  obtain ⟨l,l1,l2,l3,arr,fz,a1,a2,a3,a4,a5⟩:=hf.blk j bj c1
  have hνi:ν i=some l:=by
   show (if i<s.next then μ i else match ord[i - s.next]? with|some j=>μf j|none=>none)=some l
   rw[aQ4 (by omega),hj]
   exact l1
  refine ⟨j,bj,l,hj,c1,l1,hνi,Nat.le_of_not_lt (l3 (by rw[hp];exact h9)),arr,fz,(by rw[c2'];exact a1),a2,?_,?_,?_⟩
  ·intro k u hk
   rw[c2'] at hk
   have ht:k<bj.cells.length:=by
    rcases cL3 k bj.cells.length with h'|h'
    ·exact h'
    ·simp only at hk;rw[cZ1 (by rw[eL];exact h')] at hk;cases hk
   obtain ⟨cu,d1,d2⟩:=a3 k (bj.cells[k]) (by simp[ht])
   refine ⟨cu,d1,?_⟩
   have g3:∀ (l:List Value) (k:Nat),(U9 (C9 s.next ord) l)[k]? =(l[k]?).map (U0 (C9 s.next ord)):=by
    intro l
    induction l with
    |nil=>intro k;simp[U9]
    |cons x l ih=>intro k;cases k<;>simp[U9,ih]
   simp only[g3,cJ3 ht,aX8,aJ7] at hk
   subst hk
   rw[OQ h0]
   ·exact d2
   ·intro i' g4
    refine hw i' (g0 i' ?_)
    have g5:∀ (l:List Value) (k:Nat) (x:Value),l[k]? =some x->∀ i ∈ x9 s.next x,i ∈ B8 s.next l:=by
     intro l
     induction l with
     |nil=>intro k x h;simp at h
     |cons y l ih=>
      intro k x h i hi
      simp only[B8,cB1]
      cases k with
      |zero=>simp at h;subst h;exact .inl hi
      |succ k=>simp at h;exact .inr (ih k x h i hi)
    exact g5 bj.cells k _ (by simp[ht]) i' g4
  ·rw[c2'];simp only[eL];exact a4
  ·rw[c2'];simp only[eL];exact a5
 refine ⟨ν,⟨hνle,by simp[St.push],fun j hj=>aO9 hj⟩,?_,⟨hf.b0,?_,hr.le,?_,?_,?_,?_,?_,hr.pr⟩,hs⟩
 ·rw[OQ h0 v fun i hi=>hw i (hz i hi)];exact hv
 ·exact hr.bp.trans (O1.of hs fun k hk=>hr.fxlt hk)
 ·intro i b hi
  simp only[St.push] at hi
  rw[B3] at hi
  split at hi
  ·rename_i hc
   obtain ⟨j,bj,l,_,_,_,h1,h2,h3⟩:=hm i b hc.1 hc.2 hi
   exact ⟨l,h1,dJ2 hr.size0 h2,fun _ hk=>by have:=hr.fxlt hk;omega,h3⟩
  ·obtain ⟨l,l1,l2,l3,l4⟩:=hr.blk i b hi
   exact ⟨l,hνle _ _ l1,l2,l3,l4.mono hνle (hs.block _ l4.lt)⟩
 ·intro i j b d l m hi hj ha ho h8
  simp only[St.push] at hi hj
  rw[B3] at hi hj
  split at hi
  ·rename_i hc
   obtain ⟨i',bi,l',o1,g1,m1,n1,q1,_⟩:=hm i b hc.1 hc.2 hi
   rw[n1] at ho
   cases ho
   split at hj
   ·rename_i hh
    obtain ⟨j',bj,m',o2,g2,m2,n2,q2,_⟩:=hm j d hh.1 hh.2 hj
    rw[n2] at h8
    cases h8
    refine hf.sep i' j' bi bj _ _ g1 g2 ?_ m1 m2
    intro e
    subst e
    have:i - s.next=j - s.next:=by
     have k1:i - s.next<ord.length:=by omega
     have k2:j - s.next<ord.length:=by omega
     rw[cJ3 k1] at o1
     rw[cJ3 k2] at o2
     have o1':=Option.some.inj o1
     have o2':=Option.some.inj o2
     exact (List.getElem_inj hn).1 (o1'.trans o2'.symm)
    omega
   ·obtain ⟨m',m1',_,_,m4⟩:=hr.blk j d hj
    rw[hνle _ _ m1'] at h8
    cases h8
    have:=m4.lt
    omega
  ·obtain ⟨l',l1',_,_,l4⟩:=hr.blk i b hi
   rw[hνle _ _ l1'] at ho
   cases ho
   split at hj
   ·rename_i hh
    obtain ⟨j',bj,m',o2,g2,m2,n2,q2,_⟩:=hm j d hh.1 hh.2 hj
    rw[n2] at h8
    cases h8
    have:=l4.lt
    omega
   ·obtain ⟨m',m1',_,_,m4⟩:=hr.blk j d hj
    rw[hνle _ _ m1'] at h8
    cases h8
    exact hr.sep i j b d _ _ hi hj ha l1' m1'
 ·simp only[St.push]
  exact rJ _ _ _ hr.nd hr.lt
 ·intro i hi
  simp only[St.push] at hi ⊢
  rcases iZ _ _ _ i hi with h|h
  ·have:=hr.lt i h;omega
  ·omega
 ·intro i hi
  simp only[St.push] at hi
  show (if i<s.next then μ i else match ord[i - s.next]? with|some j=>μf j|none=>none)=none
  rw[aQ4 (by omega),cZ1 (by omega)]
theorem dD8 {sf:St} {wf:World} {μf:Mu} (hr:G5 G μ s w) (hf:G5 (AA G.w0 w s.next) μf sf wf) (hl:Y9 s μ sf μf) {v v' c:Value} (hg:gc s.next sf.heap v=some (v',bs)) (hv:tr μf v=some c):
  y8 G μ s w v' bs c wf:=by
 unfold gc at hg
 split at hg
 ·rename_i he
  simp only[aJ7,aS6] at hg
  obtain ⟨rfl,rfl⟩:=hg
  have:=hr.back hf hl (ord:= []) (bs:= []) List.nodup_nil (fun i hi=>by cases hi) rfl hv (fun i hi=>by rw[he] at hi;cases hi)
  rw[lQ (fun i hi=>by unfold C9;rw[aO9 (by rw[bA6];exact hi)]) _ he] at this
  exact this
 ·simp only[aG3,aG4,aS6] at hg
  obtain ⟨d,hd,bs',hq,rfl,rfl⟩:=hg
  obtain ⟨f0,hd⟩:=wQ hd
  obtain ⟨h1,_,h3,h4⟩:=jF s.next sf.heap _ _ [] d hd (fun i hi=>tU v i hi) List.nodup_nil
  refine hr.back hf hl (by unfold List.Nodup at h1 ⊢;rw[List.pairwise_reverse];exact h1.imp Ne.symm) (fun i hi=>?_) hq hv (fun i hi=>by simpa using h3 i hi)
  rcases h4 i (by simpa using hi) with h|⟨h5,b,h6,h7⟩
  ·cases h
  ·exact ⟨h5,b,h6,fun j hj=>by simpa using h7 j hj⟩
end Go.Itp
namespace Go.Itp
open Go.RowKit (Below)
set_option linter.unusedSimpArgs false
variable {P:Program} {G:A7} {μ:Mu} {s s':St} {w:World} {v:Value}
def NH (k:Nat):AC:= .ops [⟨some 0,none,.lib k (.tmp 0)⟩] [0]
def ZS:Nat->List (Nat × Option (Option Nat))
 |0=> []
 |_+1=> [(0,none)]
structure aD6 (P:Program) (f:FuncId) (k:Nat):Prop where
 none:∀ (p:Option Addr) (cap:Nat) (w:World),Calls P f #[.slice p 0 cap] w fun e w'=>e= .returned (AR k p [] cap)/\w'=w
 some:∀ (blk off cap:Nat) (zs:List Int) (w:World),Go.Sort.Holds (Value.int .i64) w blk off zs.toArray->blk<w.heap.size->zs.length<4611686018427387904->zs.length<=cap->
  Calls P f #[.slice (Option.some ⟨blk,off,Option.none⟩) zs.length cap] w fun e w'=>e= .returned (AR k (Option.some ⟨blk,off,Option.none⟩) zs cap)/\∃ n os,w'=Go.Sort.grow (Go.Sort.putRow (Value.int .i64) (Go.Sort.ahead w n) blk off (lF k zs).toArray) os
theorem G5.below {G:A7} {μ:Mu} {s:St} {w w':World} (h:G5 G μ s w) (hb:Below w.heap.size w w'):G5 G μ s w':=
 ⟨h.b0.trans (hb.mono h.size0),h.bp.trans (O1.of hb fun _ hk=>h.fxlt hk),h.le,fun i b e=>by
  obtain ⟨l,h1,h2,h3,h4⟩:=h.blk i b e
  exact ⟨l,h1,h2,h3,h4.mono (Mu.le_refl μ) (hb.block _ h4.lt)⟩,h.sep,h.nd,h.lt,h.dom,h.pr⟩
theorem pD:∀ {cs:List Value} {zs:List Int},wE cs=some zs->cs=zs.map (Value.int .i64)
 | [],zs,h=>by simp[wE] at h;subst h;rfl
 |c::r,zs,h=>by
  unfold wE at h
  split at h
  ·rename_i heq;cases heq
  ·rename_i heq
   simp only[dI9] at heq
   obtain ⟨rfl,rfl⟩:=heq
   simp only[aG4] at h
   obtain ⟨zs',h1,rfl⟩:=h
   rw[pD h1];rfl
  ·cases h
theorem WY:∀ (zs:List Int),G4 μ (zs.map (Value.int .i64))=some (zs.map (Value.int .i64))
 | []=>rfl
 |z::r=>by simp[G4,tr,WY r]
theorem cF9 (zs:List Int):(srt zs).length=zs.length:=List.length_mergeSort _
theorem aF3 (zs:List Int):(cpt zs).length<=zs.length:=by
 unfold cpt
 rw[cZ0]
 exact dJ2 (List.length_filter_le _ _) (by rw[List.length_range];exact aQ5 _)
theorem TH:∀ (k:Nat) (zs:List Int),(lF k zs).length=zs.length
 |0,zs=>cF9 zs
 |_+1,zs=>by
  have:=aF3 zs
  simp only[lF,bA4,dL6]
  omega
theorem aK4 {k:Nat} {a a':Option Addr} {zs:List Int} {c c':Nat} (ha:U2 μ a=some a') (hc:cA μ a c=some c'):tr μ (AR k a zs c)=some (AR k a' zs c'):=by
 cases k with
 |zero=>rfl
 |succ k=>simp only[AR,tr,ha,hc,aI2,aX8]
theorem aU2 {x:Value} {u:Value} {s1:St} (hq:NG 0 s x=some (u,s1)):u= .tuple #[]:=by
 unfold NG at hq
 split at hq
 ·split at hq
  ·cases hq;rfl
  ·split at hq
   ·split at hq
    ·cases hq
    ·simp only[aG3] at hq
     obtain ⟨_,_,_,_,_,_,hq⟩:=hq
     split at hq
     ·simp only[aG4,aS6] at hq
      obtain ⟨_,_,rfl,_⟩:=hq;rfl
     ·cases hq
    ·cases hq
   ·cases hq
 ·cases hq
theorem bL4 {f:FuncId} {k0:Nat} {x c:Value} (hk:aD6 P f k0) (h:NG k0 s x=some (v,s')) (hr:G5 G μ s w) (hx:tr μ x=some c):
  Calls P f #[c] w fun e w'=>∃ c,e= .returned c/\U3 G μ s v s' c w':=by
 unfold NG at h
 split at h
 case h_2=>cases h
 rename_i a n k
 obtain ⟨qa,k',rfl,e2,e3⟩:=G9 hx
 split at h
 ·rename_i h0
  have:=j9.1 h0
  subst this
  cases h
  refine (hk.none qa k' w).mono fun e w' ⟨he,hw⟩=>?_
  subst hw
  exact ⟨_,he,μ,Y9.refl s μ,aK4 e2 e3,hr⟩
 rename_i hh
 have hh:n ≠ 0:=fun e=>hh (j9.2 e)
 cases a with
 |none=>cases h
 |some a=>
 obtain ⟨b,o,sp⟩:=a
 cases sp with
 |none=>cases h
 |some sp=>
 obtain rfl:sp=0:=by
  cases sp with
  |zero=>rfl
  |succ sp=>cases h
 simp only[aG3] at h
 obtain ⟨bl,hb,cs,hm,zs,hn,h⟩:=h
 split at h
 case isFalse=>cases h
 rename_i hd
 rw[aO3,bA2,bA2] at hd
 obtain ⟨hd,ga⟩:=hd
 simp only[aG4,aS6] at h
 obtain ⟨s1,ho,rfl,rfl⟩:=h
 obtain ⟨rfl,hl⟩:=H8 _ _ hm
 have hz:=pD hn
 have hp:zs.length=n:=by
  have:=congrArg List.length hz
  simp only[cV7,dC7,cZ0] at this
  simp only[dC7] at hl
  omega
 obtain ⟨l,h1,h2,h3,arr,fz,h4,h5,h6,h7,h8⟩:=hr.blk b bl hb
 simp only[U2,rY,cZ5,h1,aX8,aJ7] at e2
 subst e2
 have gb:o+n<=bl.cells.length:=by simp only[dC7] at hl;omega
 have ht:=h4.esz (by omega)
 have h4:=h4.cells' ht
 obtain ⟨w',h9,hu,hv,gc,rfl⟩:=hr.store' (P:=P) (a':=⟨l.blk,l.off+o,none⟩) ho (by simp[U2,rY,h1]) (WY (μ:=μ) (lF k0 zs))
 have hy:∀ j,j<zs.length->arr[l.off+o+j]? =some (Value.int .i64 zs[j]!):=fun j hj=>by
  obtain ⟨u,u1,u2⟩:=h6 (o+j) (Value.int .i64 zs[j]!) (by
   have e:(zs.map (Value.int .i64))[j]? =some (Value.int .i64 zs[j]!):=by rw[dK9,cJ3 hj,bA7 zs j hj];rfl
   rw[<- hz,dC5,aO9 (by omega),cZ8] at e
   exact e)
  have u2:u=Value.int .i64 zs[j]! :=by
   have:tr μ (.int .i64 zs[j]!)=some (.int .i64 zs[j]!):=rfl
   rw[this] at u2
   exact (Option.some.inj u2).symm
  rw[<- u2,<- u1];congr 1;omega
 have g0:zs.length<=k':=by
  simp only[cA,h1,aX8] at e3
  rw[aQ4 (by omega)] at e3
  simp only[aJ7] at e3
  omega
 have gd:=TH k0 zs
 have hH:Go.Sort.Holds (Value.int .i64) w l.blk (l.off+o) zs.toArray:=fun j hj=>by
  have hf:j<zs.length:=by simpa using hj
  refine ⟨?_,?_⟩
  ·rw[S2 h4,hy j hf]
   simp[hf]
  ·have:=h5 (l.off+o+j) (by omega) (by omega)
   simp only[World.frozen?,h4]
   simpa using this
 have g9:l.blk<w.heap.size:=by
  rcases cL3 l.blk w.heap.size with h'|h'
  ·exact h'
  ·simp[cZ3 h'] at h4
 subst hp
 refine (hk.some l.blk (l.off+o) k' zs w hH g9 (by unfold s9 at hd;omega) g0).mono fun e w1 ⟨he,m,os,hw⟩=>⟨_,he,μ,Y9.same μ hv,aK4 (by simp[U2,rY,h1]) e3,hu.below ?_⟩
 subst hw
 obtain ⟨arr',g1,g2,g3,g4,g5,g6,g7,g8⟩:=aY l.blk _ fz ((lF k0 zs).map (Value.int .i64)) (l.off+o) w arr h4
 refine ⟨g4.symm,g5.symm,g6.symm,?_,fun i hi=>?_⟩
 ·simp only[Go.Sort.grow,Go.Sort.putRow,Go.Sort.mapBlock,Go.Sort.ahead,Array.size_append,Array.size_modify]
  show (w.setCells l.blk (l.off+o) ((lF k0 zs).map (Value.int .i64))).heap.size<=_
  rw[g7];omega
 ·have hi:i<(w.setCells l.blk (l.off+o) ((lF k0 zs).map (Value.int .i64))).heap.size:=hi
  rw[g7] at hi
  simp only[Go.Sort.grow,Go.Sort.putRow,Go.Sort.mapBlock,Go.Sort.ahead]
  rw[Array.getElem?_append_left (by simpa using hi),Array.getElem?_modify]
  by_cases hg:i=l.blk
  ·subst hg
   rw[aO9 rfl,h4,aX8,g1]
   simp only[Go.Sort.onCells]
   congr 2
   apply Array.ext_getElem?
   intro j
   rw[g3 j]
   simp only[Go.Sort.putCells,Array.getElem?_mapIdx,cZ0,List.size_toArray]
   by_cases hc:l.off+o<=j/\j<l.off+o+(lF k0 zs).length/\j<arr.size
   ·rw[aO9 hc,Array.getElem?_eq_getElem hc.2.2,aX8,aO9 ⟨hc.1,hc.2.1⟩]
    rw[dK9,cJ3 (by omega)]
    have hf:j - (l.off+o)<(lF k0 zs).length:=by omega
    simp[hf]
   ·rw[aQ4 hc]
    by_cases hs:j<arr.size
    ·rw[Array.getElem?_eq_getElem hs,aX8,aQ4 (fun h=>hc ⟨h.1,h.2,hs⟩)]
    ·rw[cZ3 (by omega)];rfl
  ·rw[aQ4 (fun e=>hg e.symm),g8 i hg]
end Go.Itp
namespace Go.Itp
open Go.RowKit (Below)
set_option linter.unusedSimpArgs false
variable {P:Program} {E:G3} {G:A7} {μ:Mu} {s s':St} {w:World} {a:Act} {fr fr':Fr} {v:Value} {bs:List A0} {N:Nat}
def W5 (P:Program):List ResultVar->Option (List (Nat × Option (Option Nat)))
 | []=>some []
 | .tmp t::r=>(W5 P r).map ((t,none)::·)
 | .cell t ty::r=>(nU P ty).bind fun g=>(W5 P r).map ((t,some g)::·)
inductive yC (P:Program) (f:FuncId) (af:p8):Prop where
 |lib (k:Nat):(∃ fn c,P.funcs[f]? =some fn/\fn.body=some c/\(fn.name== "runtime.NumGoroutine")=false)->af=⟨NH k,1,ZS k,false⟩->aD6 P f k->yC P f af
 |code:(∃ fn c ac0,P.funcs[f]? =some fn/\fn.body=some c/\(fn.name== "runtime.NumGoroutine")=false/\fn.ntmps=af.n/\I7 P af.n c ac0=some af.code/\W5 P fn.results.toList=some af.res)->yC P f af
theorem yC.enters {P:Program} {f:FuncId} {af:p8} (h:yC P f af):∃ fn c,P.funcs[f]? =some fn/\fn.body=some c/\(fn.name== "runtime.NumGoroutine")=false:=by
 rcases h with ⟨_,h,_,_⟩|⟨fn,c,ac0,h1,h2,h3,_⟩
 ·exact h
 ·exact ⟨fn,c,h1,h2,h3⟩
def LE (P:Program) (fns:FuncId->Option p8):Prop:=∀ f af,fns f=some af->yC P f af
def X2 (P:Program) (prims:FuncId->List Value->St->Option (Value × List A0)) (w0:World):Prop:=
 ∀ f xs s v bs,prims f xs s=some (v,bs)->∀ G μ w cs,G.w0=w0->G5 G μ s w->G4 μ xs=some cs->O0 P f cs.toArray w (y8 G μ s w v bs)
theorem zO:∀ (xs:List Value) (n i:Nat),I0 (cX n xs) i=if n<=i then xs[i - n]? else none
 | [],n,i=>by simp[cX,I0]
 |v::r,n,i=>by
  simp only[cX,I0]
  by_cases h:i=n
  ·subst h;rw[aO9 (j9.2 rfl)];simp
  ·rw[aQ4 (by rw[j9];exact h),zO r (n+1) i]
   by_cases h2:n+1<=i
   ·rw[aO9 h2,aO9 (by omega),show i - n=(i - (n+1))+1 by omega];simp
   ·rw[aQ4 h2,aQ4 (by omega)]
theorem bB5 {xs cs:List Value} (h:G4 μ xs=some cs) (k:Nat):J4 μ (cX 0 xs) (cs.toArray++Array.replicate k undef):=by
 intro i v e
 rw[zO] at e
 simp at e
 obtain ⟨c,h1,h2⟩:=I8 _ h i v e
 refine ⟨c,?_,h2⟩
 have hi:i<cs.length:=by
  rcases cL3 i cs.length with h'|h'
  ·exact h'
  ·simp[cZ1 h'] at h1
 rw[Array.getElem?_append_left (by simpa using hi)]
 simpa using h1
def CF (tmps:Array Value):ResultVar->Sem Value
 | .tmp t=>pure (tmps.getD t undef)
 | .cell a t=>do loadVar t (<- asAddr (tmps.getD a undef))
theorem pM (hE:bX E G.w0) (hr:G5 G μ s w) {tmps:Array Value} (hf:J4 μ fr tmps):∀ (rs:List ResultVar) (l:List (Nat × Option (Option Nat))) (vs:List Value),W5 P rs=some l->bO E fr s l=some vs->
  ∃ cs:List Value,(rs.mapM (CF tmps)).run P w= .ok cs w/\G4 μ vs=some cs
 | [],l,vs,h1,h2=>by
  simp[W5] at h1;subst h1
  simp[bO] at h2;subst h2
  exact ⟨[],by simp,rfl⟩
 | .tmp t::r,l,vs,h1,h2=>by
  simp only[W5,aG4] at h1
  obtain ⟨l',hl,rfl⟩:=h1
  simp only[bO,aG3,aG4] at h2
  obtain ⟨v,hv,vs',h7,rfl⟩:=h2
  obtain ⟨cs,c1,c2⟩:=pM hE hr hf r l' vs' hl h7
  obtain ⟨c,d1,d2⟩:=hf t v hv
  have hd:tmps.getD t undef=c:=by simp[Array.getD_eq_getD_getElem?,d1]
  refine ⟨c::cs,?_,by simp[G4,d2,c2]⟩
  simp only[List.mapM_cons,CF,Sem.run_bind,hd,Sem.run_pure,Result.andThen_ok,c1]
 | .cell t ty::r,l,vs,h1,h2=>by
  simp only[W5,aG3,aG4] at h1
  obtain ⟨g,hg,l',hl,rfl⟩:=h1
  simp only[bO,aG3] at h2
  obtain ⟨p,hp,h2⟩:=h2
  split at h2
  case h_2=>cases h2
  rename_i ad
  simp only[aG3,aG4] at h2
  obtain ⟨v,hv,vs',h7,rfl⟩:=h2
  obtain ⟨cs,c1,c2⟩:=pM hE hr hf r l' vs' hl h7
  obtain ⟨c,d1,d2⟩:=hf t _ hp
  obtain ⟨q,rfl,e2⟩:=D3 d2
  obtain ⟨b,of,rfl⟩:=G8 e2
  have hd:tmps.getD t undef= .pointer (some ⟨b,of,none⟩):=by simp[Array.getD_eq_getD_getElem?,d1]
  obtain ⟨c,f1,f2⟩:=AS (P:=P) hE hr hg hv e2
  refine ⟨c::cs,?_,by simp[G4,f2,c2]⟩
  simp only[List.mapM_cons,CF,Sem.run_bind,hd,asAddr,Sem.run_pure,Result.andThen_ok,f1,c1]
theorem bU3 {vs cs:List Value} (h:G4 μ vs=some cs):tr μ (J9 vs)=some (J9 cs):=by
 have hl:=F9 _ h
 rcases vs with _|⟨v,_|⟨u,r⟩⟩
 ·rcases cs with _|⟨c,cs⟩
  ·rfl
  ·simp at hl
 ·rcases cs with _|⟨c,_|⟨d,cs⟩⟩
  ·simp at hl
  ·simpa [G4,J9,aG3] using h
  ·simp at hl
 ·rcases cs with _|⟨c,_|⟨d,cs⟩⟩
  ·simp at hl
  ·simp at hl
  ·simp only[J9,tr]
   rw[h]
   rfl
theorem VN {fn:Func} {tmps:Array Value} {cs:List Value} (h:(fn.results.toList.mapM (CF tmps)).run P w= .ok cs w):
  (results fn tmps).run P w= .ok (J9 cs) w:=by
 have e:results fn tmps=(do let vs <- fn.results.mapM (CF tmps);pure (if h:vs.size=1 then vs[0] else Value.tuple vs)):=by
  unfold results
  congr 1
 rw[e,Array.mapM_eq_mapM_toList]
 simp only[Sem.run_bind,Sem.run_map,h,Result.andThen_ok,Sem.run_pure]
 rcases cs with _|⟨c,_|⟨d,cs⟩⟩<;>simp[J9]
theorem IC {fn:Func} {tmps:Array Value} {R:Ending->World->Prop} (hw:∀ w',G5 G μ s w'->LeavesInM (FW none) 0 P fn tmps R [] .returning w'):∀ (rs:List Nat) (w:World),rs.Nodup->
  (∀ r ∈ rs,G.w0.heap.size<=r/\¬ G.fx r/\w.heap[r]? =some (.deferred (some [])))->G5 G μ s w->LeavesInM (FW none) 0 P fn tmps R (rs.map AY) .returning w
 | [],w,_,_,hr=>hw w hr
 |r::rs,w,hn,hm,hr=>by
  rw[dK3] at hn
  obtain ⟨h1,h2,h3⟩:=hm r (by simp)
  simp only[cJ1,LeavesInM]
  refine ⟨by simp,.inl ⟨r,_,rfl,run_takeDeferred h3,?_⟩⟩
  refine IC hw rs _ hn.2 (fun q hq=>?_) (hr.putDead _ h1 h2 fun i b l hi hl he=>?_)
  ·obtain ⟨q1,q2,q3⟩:=hm q (by simp[hq])
   exact ⟨q1,q2,by rw[World.putObj_heap_other (k:=q) (fun e=>hn.1 (by rw[<- e];exact hq))];exact q3⟩
  ·obtain ⟨l',l1,_,_,arr,fz,g0,_⟩:=hr.blk i b hi
   rw[hl] at l1
   cases l1
   rw[<- he] at h3
   rcases g0 with ⟨_,_,⟨_,_,_,_,h⟩|⟨_,_,_,h⟩⟩|⟨_,h⟩<;>rw[h] at h3<;>cases h3
theorem xL (hE:v8 P E G.w0 μ) {f:FuncId} {af:p8} (hk:yC P f af) {xs cs:List Value} (hb:body E af xs s=some (v,s')) (hr:G5 G μ s w) (h0:G4 μ xs=some cs):
  Calls P f cs.toArray w fun e w'=>∃ c,e= .returned c/\U3 G μ s v s' c w':=by
 rcases hk with ⟨k0,_,rfl,hs⟩|⟨fn,c,ac0,h1,h2,h3,h4,h5,h6⟩
 ·unfold body at hb
  split at hb
  case isFalse=>cases hb
  rename_i hn
  rw[bA2] at hn
  rcases xs with _|⟨x,_|⟨y,r⟩⟩
  ·simp[NH,C7,L5,wanted,step,d9,s7,ev,cX,I0] at hb
  ·have g2:NG k0 s x=some (v,s'):=by
    simp only[NH,C7,L5,wanted,step,d9,s7,ev,cX,I0,aI2] at hb
    rw[aO9 (j9.2 rfl)] at hb
    simp only[aI2] at hb
    cases hq:NG k0 s x with
    |none=>rw[hq] at hb;cases hb
    |some r=>
     obtain ⟨u,s1⟩:=r
     rw[hq] at hb
     have e1:u9 [0] (J0 [(0,x)] (some 0) u)= [(0,u)]:=rfl
     simp only[aI2,aX8,e1] at hb
     cases k0 with
     |zero=>
      simp only[ZS,bO,J9,aX8,aJ7,aS6] at hb
      obtain ⟨rfl,rfl⟩:=hb
      rw[aU2 hq]
     |succ k0=>
      have e2:bO E [(0,u)] s1 (ZS (k0+1))=some [u]:=rfl
      rw[e2] at hb
      simp only[J9,aX8,aJ7,aS6] at hb
      obtain ⟨rfl,rfl⟩:=hb
      rfl
   simp only[G4,aG3,aG4] at h0
   obtain ⟨c,hc,cs',hx,rfl⟩:=h0
   simp at hx
   subst hx
   exact bL4 hs g2 hr hc
  ·simp at hn
 unfold body at hb
 split at hb
 case isFalse=>cases hb
 rename_i hn
 rw[bA2] at hn
 have gf:=F9 _ h0
 simp only[aG3] at hb
 obtain ⟨⟨ex,fr1,s1⟩,he,hb⟩:=hb
 refine oT.1 (callsIn_of_wp_marks (F:=FW none) (n:=0) h1 h2 (jZ none f) ?_)
 have g3:(cs.toArray++Array.replicate (fn.ntmps - cs.toArray.size) undef).size=af.n:=by
  simp only[Array.size_append,List.size_toArray,Array.size_replicate];omega
 refine cB2 c ac0 af.code h5 none (.inl rfl) G _ _ μ _ w _ ex fr1 s1 hE he (bB5 h0 _) g3 hr ?_
 intro G1 ms μ1 a1 w1 g1 mk h8 g4 gg g5 hz
 have key:∀ (vs:List Value),bO E fr1 s1 af.res=some vs->J9 vs=v->s1=s'->
   LeavesInM (FW none) 0 P fn a1.tmps (fun e w'=>∃ c,e= .returned c/\U3 G μ s v s' c w') a1.defers .returning w1:=by
  intro vs h7 hv hs
  subst hv
  subst hs
  obtain ⟨rs,g6,g7,g8⟩:=mk
  rw[g5,g6,dC9]
  refine IC (G:=G) (μ:=μ1) (s:=s1) (fun w' ht=>?_) rs w1 g7 (fun r g9=>?_) (hz.down g1)
  ·obtain ⟨ds,d1,d2⟩:=pM (P:=P) hE.old ht g4 _ _ _ h6 h7
   exact ⟨J9 ds,VN d1,_,rfl,μ1,h8,bU3 d2,ht⟩
  ·obtain ⟨q1,q2,q3,q4⟩:=g8 r g9
   exact ⟨q1,q2,by rw[hz.bp.block r q3];exact q4⟩
 cases ex with
 |exit id=>cases hb
 |normal=>
  simp only[aG4,aS6] at hb
  obtain ⟨vs,h7,hv,hs⟩:=hb
  exact key vs h7 hv hs
 |ret=>
  simp only[aG4,aS6] at hb
  obtain ⟨vs,h7,hv,hs⟩:=hb
  exact key vs h7 hv hs
theorem HA {f:FuncId} {fn:Func} {c:Code} {args:Array Value} (h1:P.funcs[f]? =some fn) (h2:fn.body=some c) (h3:(fn.name== "runtime.NumGoroutine")=false):(callFunc f args).run P w= .ok (.enter f args) w:=by
 have ga:fn.name ≠ "runtime.NumGoroutine":=by simpa using h3
 simp[callFunc,h1,h2,ga]
theorem M9 {f:FuncId} {fn:Func} {c:Code} {args:Array Value} {R:Value->World->Prop} (h1:P.funcs[f]? =some fn) (h2:fn.body=some c) (h3:(fn.name== "runtime.NumGoroutine")=false)
  (h:Calls P f args w fun e w'=>∃ c,e= .returned c/\R c w'):O0 P f args w R:=by
 intro r o a next Q k
 rw[HA h1 h2 h3,Oper.uponIn_enter]
 exact ⟨yB,oT.2 (h.mono fun e w' ⟨c,he,hR⟩=>by subst he;exact k c w' hR)⟩
theorem bM5 (P:Program) (w0:World) (m:Mu) (d:Nat):hM P w0 m d (noY d):=fun xs s v s' h=>by simp[noY] at h
theorem QH {old:Nat->Nat->Option Value} {rounds:Nat} {fns:FuncId->Option p8} {prims:FuncId->List Value->St->Option (Value × List A0)} {w0:World}
  (ha:P.follows .mixedOrders=true) (hj:∀ b o v,old b o=some v->∃ c,w0.cell? ⟨b,o,none⟩=some c/\∀ μ,tr μ v=some c) (h9:LE P fns) (hu:X2 P prims w0):∀ (n:Nat) (y:Yh) (m:Mu),(∀ d,hM P w0 m d (y d))->v8 P (W0 old rounds fns prims n y) w0 m
 |0,y,m,hy=>⟨ha,fun b o v h=>hj b o v h,fun f xs s v bs h=>by simp[W0] at h,fun f xs s v s' h=>by simp[W0] at h,hy,fun d hd f xs s v s' h=>by simp[W0] at h⟩
 |n+1,y,m,hy=>by
  have ih:=QH (rounds:=rounds) ha hj h9 hu n
  refine ⟨ha,fun b o v h=>hj b o v h,?_,?_,hy,?_⟩
  ·intro f xs s v bs h G μ w cs hG h8 hr h0
   simp only[W0] at h
   split at h
   ·rename_i r hp
    cases h
    exact hu f xs s v bs hp G μ w cs hG hr h0
   ·simp only[aG3] at h
    obtain ⟨af,ho,h⟩:=h
    split at h
    case isFalse=>cases h
    simp only[aG3] at h
    obtain ⟨⟨u,sf⟩,hb,hg⟩:=h
    have hk:=h9 f af ho
    obtain ⟨fn,c,h1,h2,h3⟩:=hk.enters
    have ht:G5 (AA G.w0 w s.next) μ {s with prot:=s.next} w:=by
     refine ⟨hr.b0,O1.refl _ _,hr.size0,fun i b hi=>?_,hr.sep,hr.nd,hr.lt,hr.dom,rfl⟩
     obtain ⟨l,l1,l2,l3,l4⟩:=hr.blk i b hi
     exact ⟨l,l1,l2,fun hp=>by have:=hr.ltg hi;simp only at hp;omega,l4⟩
    have gb:=xL (G:=AA G.w0 w s.next) (by rw[show (AA G.w0 w s.next).w0=w0 from hG];exact ih noY μ (bM5 P w0 μ)) hk hb ht h0
    refine M9 h1 h2 h3 (gb.mono fun e w' ⟨c,he,μ',m1,m2,m3⟩=>⟨c,he,?_⟩)
    exact dD8 hr m3 (m1.of rfl) hg m2
  ·intro f xs s v s' h G μ w cs hG h8 hr h0
   simp only[W0,aG3] at h
   obtain ⟨af,ho,h⟩:=h
   split at h
   ·cases h
   have hk:=h9 f af ho
   obtain ⟨fn,c,h1,h2,h3⟩:=hk.enters
   exact M9 h1 h2 h3 (xL (by rw[hG];exact (ih y m hy).mono h8) hk h hr h0)
  ·intro d hd f xs s v s' h m1 hm hh G μ w cs hG h8 hr h0
   simp only[W0,aG3] at h
   obtain ⟨af,ho,h⟩:=h
   have hk:=h9 f af ho
   obtain ⟨fn,c,h1,h2,h3⟩:=hk.enters
   have gd:v8 P (W0 old rounds fns prims n (XC y d hd)) w0 m1:=ih (XC y d hd) m1 fun i=>?_
   ·exact ⟨HA h1 h2 h3,xL (by rw[hG];exact gd.mono h8) hk h hr h0⟩
   unfold XC
   split
   ·rename_i hi
    have:=j9.1 hi
    subst this
    exact hh
   ·exact (hy i).mono hm
theorem bE2 {old:Nat->Nat->Option Value} {rounds:Nat} {fns:FuncId->Option p8} {prims:FuncId->List Value->St->Option (Value × List A0)} {w0:World}
  (ha:P.follows .mixedOrders=true) (hj:∀ b o v,old b o=some v->∃ c,w0.cell? ⟨b,o,none⟩=some c/\∀ μ,tr μ v=some c) (h9:LE P fns) (hu:X2 P prims w0) (n:Nat) (m:Mu):v8 P (t8 old rounds fns prims n) w0 m:=
 QH ha hj h9 hu n noY m (bM5 P w0 m)
theorem K0 (old:Nat->Nat->Option Value) (rounds:Nat) (fns:FuncId->Option p8) (prims:FuncId->List Value->St->Option (Value × List A0)) (n:Nat) (f:FuncId) (xs:List Value) (s:St):
  (t8 old rounds fns prims (n+1)).pcall f xs s=match prims f xs s with
   |some r=>some r
   |none=>(fns f).bind fun af=>if af.pure then (body (t8 old rounds fns prims n) af xs {s with prot:=s.next}).bind fun (v,s')=>gc s.next s'.heap v else none:=rfl
theorem vN (old:Nat->Nat->Option Value) (rounds:Nat) (fns:FuncId->Option p8) (prims:FuncId->List Value->St->Option (Value × List A0)) (n:Nat) (f:FuncId) (xs:List Value) (s:St):
  (t8 old rounds fns prims (n+1)).wcall f xs s=(fns f).bind fun af=>if af.pure then none else body (t8 old rounds fns prims n) af xs s:=rfl
end Go.Itp
namespace Go.Itp
open Go.RowKit (Below)
set_option linter.unusedSimpArgs false
def J2 (w:World) (b o:Nat):Option Value:=
 match w.cell? ⟨b,o,none⟩ with
 |some (.slice (some ⟨b',o',some k⟩) 0 0)=>some (.complex .f32 b' (EX o' k))
 |some v=>if (x9 0 v).isEmpty then some v else none
 |none=>none
theorem TS (w:World) (b o:Nat) (v:Value) (h:J2 w b o=some v):∃ c,w.cell? ⟨b,o,none⟩=some c/\∀ μ,tr μ v=some c:=by
 unfold J2 at h
 split at h
 ·rename_i b' o' k hu
  cases h
  exact ⟨_,hu,fun μ=>by simp only[tr,aR9]⟩
 ·rename_i u hu
  split at h
  ·rename_i hc
   cases h
   exact ⟨_,hu,fun μ=>uT _ (by simpa using hc)⟩
  ·cases h
 ·cases h
theorem pJ {w:World} {b o:Nat} {v:Value} (h:w.cell? ⟨b,o,none⟩=some v) (h2:x9 0 v= []):J2 w b o=some v:=by
 unfold J2
 rw[h]
 split
 ·rename_i b' o' k hu
  cases hu
  simp[x9,r6] at h2
 ·rename_i u _ hu
  cases hu
  simp[h2]
 ·rename_i hu;cases hu
theorem aU9 {w:World} {b o b' o' k:Nat} (h:w.cell? ⟨b,o,none⟩=some (.slice (some ⟨b',o',some k⟩) 0 0)):J2 w b o=some (.complex .f32 b' (EX o' k)):=by
 unfold J2
 rw[h]
 rfl
def B6:Nat:=1152921504606846976
def St.empty:St:=⟨[],0,0⟩
def R2 (c:UInt8):List UInt8->Nat->Option Nat
 | [],_=>none
 |b::r,i=>if b.toNat=c.toNat then some i else R2 c r (i+1)
theorem vX (c:UInt8) (g:Nat->UInt8):∀ (l:List UInt8) (k:Nat),(∀ j x,l[j]? =some x->g (k+j)=x)->(List.range' k l.length).find? (fun i=>g i==c)=R2 c l k
 | [],k,_=>rfl
 |b::r,k,h=>by
  have h0:=h 0 b rfl
  simp only[cZ5] at h0
  simp only[bK2,List.range'_succ,List.find?_cons,R2,h0]
  have ih:=vX c g r (k+1) (fun j x hj=>by have:=h (j+1) x (by simpa using hj);rw[<- this];congr 1;omega)
  by_cases hb:b=c
  ·subst hb;simp
  ·have:¬ b.toNat=c.toNat:=fun e=>hb (UInt8.toNat_inj.1 e)
   have h7:(b==c)=false:=by simpa using hb
   rw[aQ4 this,<- ih,h7]
def mS (s:ByteArray) (c:UInt8):Int:=match R2 c s.data.toList 0 with|some i=>i|none=> -1
theorem MP (s:ByteArray) (c:UInt8):firstIdx s c=mS s c:=by
 unfold firstIdx mS
 have:=vX c (fun i=>s[i]!) s.data.toList 0 (fun j x hj=>by
  simp only[cZ9]
  have h6:j<s.data.toList.length:=by
   rcases cL3 j s.data.toList.length with h|h
   ·exact h
   ·rw[cZ1 h] at hj;cases hj
  have h8:j<s.size:=by simpa using h6
  rw[bA7 s j h8]
  rw[cJ3 h6] at hj
  have:=Option.some.inj hj
  rw[<- this]
  rfl)
 rw[List.range_eq_range',show s.size=s.data.toList.length by simp,this]
 cases R2 c s.data.toList 0<;>rfl
inductive PF where
 |same
 |indexByte
 |count
 |makeNoZero
def cA7:PF->Array Value->Sem Value
 | .same=>Extern.AbiNoEscape.same
 | .indexByte=>Extern.BytealgIndexByte.indexByte
 | .count=>Extern.BytealgCount.count
 | .makeNoZero=>fun _=>stuck "no entry"
def BS (k:PF) (t:TypeId) (xs:List Value) (s:St):Option (Value × List A0):=
 match k,xs with
 | .same,[x]=>some (x,[])
 | .indexByte,[.string b,.int .u8 c]=>some (.int .i64 (mS b c.toNat.toUInt8),[])
 | .count,[.string b,.int .u8 c]=>some (.int .i64 (b.foldl (fun n x=>if x==c.toNat.toUInt8 then n+1 else n) (0:Nat)),[])
 | .makeNoZero,[.int .i64 n]=>if 0<=n/\n<=s9 then some (.slice (some ⟨s.next,0,some 0⟩) n.toNat A5,[⟨[],1,true,t⟩]) else none
 |_,_=>none
structure PG (P:Program) (f:FuncId) (k:PF) (t:TypeId):Prop where
 fn:∃ fn,P.funcs[f]? =some fn/\(fn.name== "runtime.NumGoroutine")=false/\fn.body.isNone=true/\
  (match k with
   | .makeNoZero=>∃ ps r,Extern.findNext fn=none/\Extern.find fn=some (Extern.BytealgMakeNoZero.makeNoZero ps #[r])/\P.underlying r=some (.slice t)
   |k=>Extern.findNext fn=none/\Extern.find fn=some (cA7 k))
variable {P:Program} {G:A7} {μ:Mu} {s:St} {w:World}
theorem bA {f:FuncId} {fn:Func} {e:Array Value->Sem Value} (hf:P.funcs[f]? =some fn) (h9:(fn.name== "runtime.NumGoroutine")=false)
  (hb:fn.body.isNone=true) (hn:Extern.findNext fn=none) (he:Extern.find fn=some e) {args:Array Value} {c:Value} {w':World} {R:Value->World->Prop} (h:(e args).run P w= .ok c w') (r:R c w'):O0 P f args w R:=by
 intro ro o a next Q k
 rw[run_callFunc_extern hf h9 hb hn he,h]
 exact k c w' r
theorem cE0 {f:FuncId} {k:PF} {t:TypeId} (hk:PG P f k t) {xs cs:List Value} {v:Value} {bs:List A0} (h:BS k t xs s=some (v,bs)) (hr:G5 G μ s w) (hx:G4 μ xs=some cs):O0 P f cs.toArray w (y8 G μ s w v bs):=by
 obtain ⟨fn,hf,h1,h2,h3⟩:=hk.fn
 unfold BS at h
 split at h
 ·simp only[aJ7,aS6] at h
  obtain ⟨rfl,rfl⟩:=h
  simp only[G4,aG3,aG4] at hx
  obtain ⟨c,hc,l,hl,rfl⟩:=hx
  cases hl
  exact bA hf h1 h2 h3.1 h3.2 (c:=c) (w':=w) rfl (Z7 hr hc)
 ·rename_i b c
  simp only[aJ7,aS6] at h
  obtain ⟨rfl,rfl⟩:=h
  simp[G4,tr] at hx
  subst hx
  refine bA hf h1 h2 h3.1 h3.2 (c:= .int .i64 (firstIdx b c.toNat.toUInt8)) (w':=w) (run_indexByte_string b c w) ?_
  rw[<- MP]
  exact Z7 hr rfl
 ·rename_i b c
  simp only[aJ7,aS6] at h
  obtain ⟨rfl,rfl⟩:=h
  simp[G4,tr] at hx
  subst hx
  exact bA hf h1 h2 h3.1 h3.2 (c:= .int .i64 (b.foldl (fun n x=>if x==c.toNat.toUInt8 then n+1 else n) (0:Nat))) (w':=w) rfl (Z7 hr rfl)
 ·rename_i n
  split at h
  case isFalse=>cases h
  rename_i hn
  simp only[aJ7,aS6] at h
  obtain ⟨rfl,rfl⟩:=h
  simp[G4,tr] at hx
  subst hx
  obtain ⟨ps,r,g1,g2,g3⟩:=h3
  obtain ⟨n,rfl⟩:=cZ4 hn.1
  obtain ⟨arr,k1,k2,_⟩:=Lib.run_makeNoZero (P:=P) w ps r t g3 n (by have:=hn.2;unfold s9 at this;omega)
  obtain ⟨h4,h5⟩:=hr.drew.drew.alloc ⟨[],1,true,t⟩ arr arr.size (by simp) (by simp[G4]) (by simp) (fun _=>by simp)
  refine bA hf h1 h2 g1 g2 (c:=_) (w':=_) k1 ⟨_,Y9.push h5,?_,h4,(Below.refl w.heap.size w).drew.drew.alloc (aQ5 _) _⟩
  simp only[tr,U2,rY,cZ5,cA,Mu.set_same,aX8,aI2]
  rw[aQ4 (by omega)]
  simp
 ·cases h
def rP:List (FuncId × PF × TypeId)->FuncId->List Value->St->Option (Value × List A0)
 | [],_,_,_=>none
 |(g,k,t)::r,f,xs,s=>if Nat.beq f g then BS k t xs s else rP r f xs s
def xZ (P:Program):List (FuncId × PF × TypeId)->Prop
 | []=>True
 |(g,k,t)::r=>PG P g k t/\xZ P r
theorem BT:∀ (l:List (FuncId × PF × TypeId)),xZ P l->∀ w0,X2 P (rP l) w0
 | [],_,_=>fun f xs s v bs h=>by simp[rP] at h
 |(g,k,t)::r,hl,w0=>fun f xs s v bs h G μ w cs hG hr hx=>by
  simp only[rP] at h
  split at h
  ·rename_i ha
   have:=j9.1 ha
   subst this
   exact cE0 hl.1 h hr hx
  ·exact BT r hl.2 w0 f xs s v bs h G μ w cs hG hr hx
end Go.Itp
namespace Go.Itp
set_option linter.unusedSimpArgs false
inductive KF where
 |seq (b:AC)
 |block (id:Nat)
abbrev aQ6:=Option (Ex × Fr × St)
def aX2 (E:G3):List KF->Ex->Fr->St->aQ6
 | [],ex,fr,s=>some (ex,fr,s)
 | .seq b::K,.normal,fr,s=>(C7 E b fr s).bind fun r=>aX2 E K r.1 r.2.1 r.2.2
 | .seq _::K,ex,fr,s=>aX2 E K ex fr s
 | .block id::K,.exit i,fr,s=>if i=id then aX2 E K .normal fr s else aX2 E K (.exit i) fr s
 | .block _::K,ex,fr,s=>aX2 E K ex fr s
def go (E:G3) (c:AC) (K:List KF) (fr:Fr) (s:St):aQ6:=(C7 E c fr s).bind fun r=>aX2 E K r.1 r.2.1 r.2.2
section
variable {E:G3} {K:List KF} {fr:Fr} {s:St}
end
def cO1 (r:aQ6) (P:Ex->Fr->St->Prop):Prop:=∃ ex fr s,r=some (ex,fr,s)/\P ex fr s
theorem cO1.mono {r:aQ6} {P Q:Ex->Fr->St->Prop} (h:cO1 r P) (hq:∀ ex fr s,P ex fr s->Q ex fr s):cO1 r Q:=by
 obtain ⟨ex,fr,s,e,p⟩:=h
 exact ⟨ex,fr,s,e,hq _ _ _ p⟩
theorem L1 (i j:Nat) (v:Value) (r:Fr):I0 ((j,v)::r) i=if i=j then some v else I0 r i:=by
 simp only[I0]
 by_cases h:i=j
 ·rw[aO9 (j9.2 h),aO9 h]
 ·rw[aQ4 (by rw[j9];exact h),aQ4 h]
theorem bH7 (i:Nat) (v:Value):tO [] i v= [(i,v)]:=rfl
theorem ZN (i j:Nat) (u v:Value) (r:Fr):tO ((j,u)::r) i v=if i=j then (i,v)::r else if i<j then (i,v)::(j,u)::r else (j,u)::tO r i v:=by
 simp only[tO]
 by_cases h:i=j
 ·rw[aO9 (j9.2 h),aO9 h]
 ·rw[aQ4 (by rw[j9];exact h),aQ4 h]
  by_cases h2:i<j
  ·rw[aO9 (by rw[bA6];exact h2),aO9 h2]
  ·rw[aQ4 (by rw[bA6];exact h2),aQ4 h2]
theorem GZ (i:Nat):p5 i []=false:=rfl
theorem vQ (i j:Nat) (r:List Nat):p5 i (j::r)=if i=j then true else p5 i r:=by
 simp only[p5]
 by_cases h:i=j
 ·rw[aO9 (j9.2 h),aO9 h]
 ·rw[aQ4 (by rw[j9];exact h),aQ4 h]
theorem RO (ks:List Nat) (j:Nat) (v:Value) (r:Fr):u9 ks ((j,v)::r)=if p5 j ks=true then (j,v)::u9 ks r else u9 ks r:=rfl
section
variable (E:G3)
section
variable (fr:Fr) (s:St)
end
end
def jT {α β:Type} (f:α->Option β) (a:Option α):Option β:=a.bind f
def mZ {α β γ:Type} (f:α->β->Option γ) (a:Option α) (b:Option β):Option γ:=a.bind fun x=>b.bind fun y=>f x y
theorem TU {α β:Type} (f:α->Option β) (a:α):jT f (some a)=f a:=rfl
theorem TV {α β γ:Type} (f:α->β->Option γ) (a:α) (b:β):mZ f (some a) (some b)=f a b:=rfl
def cL5 (e:Nat):Value->Value->Option Value
 | .slice (some a) n _,i=>(B4 i n).map fun i=> .pointer (some (C6 a (i*e)))
 |_,_=>none
def dE4 (t:Bool):Value->Option Value
 | .slice _ n _=>if t then none else some (.int .i64 n)
 | .complex _ _ _=>if t then none else some (.int .i64 0)
 | .string b=>if t then some (.int .i64 b.size) else none
 |_=>none
theorem YY {E:G3} {s:St} {v:Value} {xs ys:List Value} {f:FuncId} (h:aS v xs=some (f,ys)):QJ E v xs s=E.wcall f ys s:=by
 unfold QJ
 split
 ·simp[aS] at h
 ·rw[h];rfl
def bY5 (E:G3) (s:St) (t:TypeId) (e b:Nat) (x y:Value):Option (Value × St):=
 match bB E s t e b x y with
 |some r=>some (r.1,s.push r.2)
 |none=>kH E s t e b x y
section
variable (E:G3) (fr:Fr) (s:St)
end
theorem cZ {p:Prop} [Decidable p] (h:p):decide p=true:=by simp[h]
theorem fH {p:Prop} [Decidable p] (h:¬ p):decide p=false:=by simp[h]
theorem cK1 (k:IntKind) (x y:Int):K8 .lss (.int k x) (.int k y)=some (.bool (decide (x<y))):=by simp[K8]
theorem cK0 (k:IntKind) (x y:Int):K8 .leq (.int k x) (.int k y)=some (.bool (decide (x<=y))):=by simp[K8]
theorem cJ9 (k:IntKind) (x y:Int):K8 .gtr (.int k x) (.int k y)=some (.bool (decide (y<x))):=by simp[K8]
theorem cJ8 (k:IntKind) (x y:Int):K8 .geq (.int k x) (.int k y)=some (.bool (decide (y<=x))):=by simp[K8]
theorem cJ7 (k:IntKind) (x y:Int):K8 .eql (.int k x) (.int k y)=some (.bool (decide (x=y))):=by
 simp only[K8,if_true,aJ7,Value.bool.injEq]
 rw[dM5];simp
theorem cK3 (k:IntKind) (x y:Int):K8 .neq (.int k x) (.int k y)=some (.bool (decide (¬ x=y))):=by
 simp only[K8,if_true,aJ7,Value.bool.injEq]
 rw[dM5];simp
theorem cJ6 (k:IntKind) (x y:Int):K8 .add (.int k x) (.int k y)=some (.int k (k.wrap (x+y))):=by simp[K8]
theorem cK4 (k:IntKind) (x y:Int):K8 .sub (.int k x) (.int k y)=some (.int k (k.wrap (x - y))):=by simp[K8]
theorem cK2 (k:IntKind) (x y:Int):K8 .mul (.int k x) (.int k y)=some (.int k (k.wrap (x*y))):=by simp[K8]
theorem dA4 (k:IntKind) (x y:Int) (h:y ≠ 0):K8 .quo (.int k x) (.int k y)=some (.int k (k.wrap (x.tdiv y))):=by simp[K8,h]
theorem dA5 (k:IntKind) (x y:Int) (h:y ≠ 0):K8 .rem (.int k x) (.int k y)=some (.int k (x.tmod y)):=by simp[K8,h]
theorem FP (k:IntKind) (x y:Int) (h0:0<=x) (h:0<y):K8 .quo (.int k x) (.int k y)=some (.int k (k.wrap (x / y))):=by
 rw[dA4 k x y (by omega),Int.tdiv_eq_ediv_of_nonneg h0]
theorem FQ (k:IntKind) (x y:Int) (h0:0<=x) (h:0<y):K8 .rem (.int k x) (.int k y)=some (.int k (x % y)):=by
 rw[dA5 k x y (by omega),Int.tmod_eq_emod_of_nonneg h0]
theorem YO (a b:ByteArray):K8 .eql (.string a) (.string b)=some (.bool (decide (a=b))):=by
 simp only[K8,aJ7,Value.bool.injEq]
 rw[dM5]
 simp only[beq_iff_eq,cT5]
 rw[ByteArray.toList_eq,ByteArray.toList_eq]
 constructor
 ·intro h
  apply ByteArray.ext
  have:=congrArg List.toArray h
  simpa using this
 ·intro h;rw[h]
theorem bC4 (a b:ByteArray):K8 .neq (.string a) (.string b)=some (.bool (decide (¬ a=b))):=by
 have h:=YO a b
 simp only[K8,aJ7,Value.bool.injEq] at h ⊢
 rw[h]
 rw[dM5];simp
theorem bC3 (a b:ByteArray) (h:a.size+b.size<9223372036854775807):K8 .add (.string a) (.string b)=some (.string (a++b)):=by simp[K8,h]
theorem vA (x:Int) (h1: -9223372036854775808<=x) (h2:x<9223372036854775808):IntKind.i64.wrap x=x:=by
 simp[IntKind.wrap,IntKind.bits,IntKind.signed]
 omega
theorem nR (x:Int) (h1:0<=x) (h2:x<256):IntKind.u8.wrap x=x:=by
 simp[IntKind.wrap,IntKind.bits,IntKind.signed]
 omega
theorem cN6 (b:Bool):unA .not (.bool b)=some (.bool (!b)):=rfl
theorem cN5 (k:IntKind) (n:Int):unA .neg (.int k n)=some (.int k (k.wrap (0 - n))):=rfl
theorem wK (p:Prop) [Decidable p]:(!(decide p))=decide (¬ p):=by by_cases h:p<;>simp[h]
theorem fR (k:IntKind) (z:Int) (n:Nat) (h0:0<=z) (h1:z<n):B4 (.int k z) n=some z.toNat:=by simp[B4,h0,h1]
theorem II {α:Type} (x:α) (r:List α):E1 (x::r) 0=some x:=rfl
theorem IH {α:Type} (x:α) (r:List α) (n:Nat):E1 (x::r) (n+1)=E1 r n:=rfl
section
variable {E:G3} {K:List KF} {fr:Fr} {s:St} {P:Ex->Fr->St->Prop}
end
def LN:Option Addr->Nat
 |some ⟨b,_,some _⟩=>b+1
 |_=>0
def qF:Value->Nat
 | .slice a _ _=>LN a
 | .pointer a=>LN a
 |_=>0
def elP:Value->Nat->Value
 | .slice (some a) _ _,k=> .pointer (some (C6 a k))
 |_,_=> .pointer none
def iA (old:Nat->Nat->Option Value) (h:o7) (a:Addr):Option Value:=
 match a.spot with
 |none=>old a.block a.off
 |some 0=>(i7 h a.block).bind fun b=>E1 b.cells a.off
 |some (_+1)=>none
def cL9 (old:Nat->Nat->Option Value) (h:o7):Value->Option Value
 | .pointer (some a)=>iA old h a
 |_=>none
def cW1 (old:Nat->Nat->Option Value) (h:o7) (e n:Nat) (v:Value):Option (List Value):=s6 ⟨fun _ _ _=>none,fun _ _ _=>none,old,0,noY,fun _ _ _ _ _=>none⟩ h e n v
theorem k9 (old:Nat->Nat->Option Value) (r:Nat) (fns:FuncId->Option p8) (prims:FuncId->List Value->St->Option (Value × List A0)):∀ n,(t8 old r fns prims n).rounds=r
 |0=>rfl
 |_+1=>rfl
theorem iW (h:o7) (n i:Nat) (bs:List A0) (hi:i<n):i7 (B0 h n bs) i=i7 h i:=by
 rw[B3,aQ4 (by omega)]
theorem EY (h:o7) (n i:Nat) (b:A0) (hi:i=n):i7 (B0 h n [b]) i=some b:=by
 subst hi;rw[B3,aO9 (by simp)];simp
theorem kY:∀ (h:o7) (i j:Nat) (b:A0),¬ j=i->i7 (L6 h i b) j=i7 h j
 | [],_,_,_,_=>rfl
 |(k,u)::r,i,j,b,hj=>by
  simp only[L6]
  by_cases hk:i=k
  ·rw[aO9 (j9.2 hk)]
   simp only[i7]
   rw[aQ4 (by rw[j9];omega),aQ4 (by rw[j9];omega)]
  ·rw[aQ4 (by rw[j9];exact hk)]
   simp only[i7]
   rw[kY r i j b hj]
theorem eI:∀ (h:o7) (i j:Nat),¬ j=i->i7 (J1 h i) j=i7 h j
 | [],_,_,_=>rfl
 |(k,u)::r,i,j,hj=>by
  simp only[J1]
  by_cases hk:i=k
  ·rw[aO9 (j9.2 hk)]
   simp only[i7]
   rw[aQ4 (by rw[j9];omega)]
  ·rw[aQ4 (by rw[j9];exact hk)]
   simp only[i7]
   rw[eI r i j hj]
def HX (n:Nat) (h0 h:o7):Prop:=∀ i,i<n->i7 h i=i7 h0 i
theorem HX.refl (n:Nat) (h:o7):HX n h h:=fun _ _=>rfl
theorem HX.trans {n m:Nat} {a b c:o7} (h:HX n a b) (k:HX m b c) (hm:n<=m):HX n a c:=fun i hi=>by rw[k i (by omega),h i hi]
theorem HX.push {n m:Nat} {h0 h:o7} (hx:HX n h0 h) (bs:List A0) (hm:n<=m):HX n h0 (B0 h m bs):=fun i hi=>by rw[iW _ _ _ _ (by omega),hx i hi]
theorem HX.set {n i:Nat} {h0 h:o7} (hx:HX n h0 h) (b:A0) (hi:n<=i):HX n h0 (L6 h i b):=fun j hj=>by rw[kY _ _ _ _ (by omega),hx j hj]
theorem HX.del {n i:Nat} {h0 h:o7} (hx:HX n h0 h) (hi:n<=i):HX n h0 (J1 h i):=fun j hj=>by rw[eI _ _ _ (by omega),hx j hj]
structure Rd {α:Type} (old:Nat->Nat->Option Value) (h:o7) (f:α->Value) (v:Value) (l:List α):Prop where
 is:(∃ a c,v= .slice a l.length c/\l.length<=B5 c/\((a=none/\l= [])\/∃ ad,a=some ad/\(∀ i,LN (some ad)=i+1->∃ b,i7 h i=some b)/\∀ k (hk:k<l.length),iA old h (C6 ad k)=some (f l[k])))\/
  (l= []/\∃ k b n,v= .complex k b n)
section
variable {α:Type} {old:Nat->Nat->Option Value} {h:o7} {f:α->Value} {v:Value} {l:List α}
theorem Rd.len (r:Rd old h f v l):dE4 false v=some (.int .i64 l.length):=by
 rcases r.is with ⟨a,c,rfl,_⟩|⟨rfl,k,b,n,rfl⟩<;>rfl
theorem Rd.lenA (r:Rd old h f v l):lenA v=some l.length:=by
 rcases r.is with ⟨a,c,rfl,_⟩|⟨rfl,k,b,n,rfl⟩<;>rfl
theorem Rd.idx (r:Rd old h f v l) (kd:IntKind) (z:Int) (h0:0<=z) (h1:z<l.length):cL5 1 v (.int kd z)=some (elP v z.toNat):=by
 rcases r.is with ⟨a,c,rfl,_,h2⟩|⟨rfl,_⟩
 case inr=>simp at h1;omega
 rcases h2 with ⟨rfl,rfl⟩|⟨ad,rfl,hb,h2⟩
 ·simp at h1;omega
 ·simp only[cL5,fR kd z _ h0 h1,aX8,dK7,elP]
theorem Rd.load [Inhabited α] (r:Rd old h f v l) (k:Nat) (hk:k<l.length):cL9 old h (elP v k)=some (f l[k]!):=by
 rcases r.is with ⟨a,c,rfl,_,h2⟩|⟨rfl,_⟩
 case inr=>simp at hk
 rcases h2 with ⟨rfl,rfl⟩|⟨ad,rfl,hb,h2⟩
 ·simp at hk
 ·simp only[elP,cL9,h2 k hk,bA7 l k hk]
theorem aQ8 {old:Nat->Nat->Option Value} {h h':o7} {ad:Addr} (k:Nat) (hh:∀ i,LN (some ad)=i+1->i7 h' i=i7 h i):iA old h' (C6 ad k)=iA old h (C6 ad k):=by
 obtain ⟨b,o,sp⟩:=ad
 cases sp with
 |none=>rfl
 |some p=>simp only[iA,C6,hh b rfl]
theorem Rd.mono (r:Rd old h f v l) {h':o7} (hh:∀ i,qF v=i+1->i7 h' i=i7 h i):Rd old h' f v l:=by
 rcases r.is with ⟨a,c,rfl,h1,h2⟩|h0
 case inr=>exact ⟨Or.inr h0⟩
 refine ⟨O ⟨a,c,rfl,h1,?_⟩⟩
 rcases h2 with h2|⟨ad,rfl,hb,h2⟩
 ·exact O h2
 ·exact Or.inr ⟨ad,rfl,fun i hi=>by rw[hh i hi];exact hb i hi,fun k hk=>by rw[aQ8 k hh];exact h2 k hk⟩
theorem Rd.hx (r:Rd old h f v l) {n:Nat} {h':o7} (hx:HX n h h') (hb:qF v<=n):Rd old h' f v l:=r.mono fun i hi=>hx i (by omega)
theorem Rd.push (r:Rd old h f v l) {n:Nat} (bs:List A0) (hb:qF v<=n):Rd old (B0 h n bs) f v l:=r.mono fun i hi=>iW _ _ _ _ (by omega)
theorem Rd.set (r:Rd old h f v l) {i:Nat} (b:A0) (hb:¬ qF v=i+1):Rd old (L6 h i b) f v l:=r.mono fun j hj=>kY _ _ _ _ (by omega)
theorem Rd.del (r:Rd old h f v l) {i:Nat} (hb:¬ qF v=i+1):Rd old (J1 h i) f v l:=r.mono fun j hj=>eI _ _ _ (by omega)
theorem Rd.newb {b:A0} {i n c:Nat} (hg:i7 h i=some b) (hb:b.cells=l.map f) (hn:n=l.length) (hc:n<=B5 c):Rd old h f (.slice (some ⟨i,0,some 0⟩) n c) l:=by
 subst hn
 refine ⟨O ⟨_,c,rfl,hc,Or.inr ⟨_,rfl,fun j hj=>?_,fun k hk=>?_⟩⟩⟩
 ·simp only[LN,Nat.add_right_cancel_iff] at hj;subst hj;exact ⟨b,hg⟩
 simp[iA,C6,hg,hb,y7,hk]
theorem Rd.nil:Rd old h f (.slice none 0 0) []:=⟨O ⟨none,0,rfl,by simp,O ⟨rfl,rfl⟩⟩⟩
theorem Rd.odd (k:FloatKind) (b n:Nat):Rd old h f (.complex k b n) []:=⟨Or.inr ⟨rfl,k,b,n,rfl⟩⟩
theorem TR {E:G3} {b:Nat}:∀ (n o:Nat) (l:List Value),l.length=n->(∀ k (hk:k<l.length),E.old b (o+k)=some l[k])->uC E b o n=some l
 |0,_,l,hl,_=>by
  have:l= []:=List.length_eq_zero_iff.1 hl
  subst this;rfl
 |n+1,o,[],hl,_=>by simp at hl
 |n+1,o,x::l,hl,h=>by
  have h0:=h 0 (by simp)
  simp only[cZ5,List.getElem_cons_zero] at h0
  have ih:=TR (E:=E) (b:=b) n (o+1) l (by simpa using hl) (fun k hk=>by have:=h (k+1) (by simpa using hk);simpa [dK2,Nat.add_comm 1 k] using this)
  simp[uC,h0,ih]
theorem Y2 {α:Type}:∀ (l:List α) (n:Nat),n<=l.length->F5 l n=some (l.take n)
 |_,0,_=>by simp[F5]
 | [],n+1,h=>by simp at h
 |x::l,n+1,h=>by simp[F5,Y2 l n (by simpa using h)]
theorem Rd.src (r:Rd old h f v l) (n:Nat) (hn:n<=l.length):cW1 old h 1 n v=some ((l.take n).map f):=by
 rcases r.is with ⟨a,c,rfl,_,h2⟩|⟨rfl,_,_,_,rfl⟩
 case inr=>
  have:n=0:=by simpa using hn
  subst this;rfl
 rcases h2 with ⟨rfl,rfl⟩|⟨ad,rfl,hb,h2⟩
 ·have:n=0:=by simpa using hn
  subst this;rfl
 ·obtain ⟨b,o,sp⟩:=ad
  cases sp with
  |none=>
   simp only[cW1,s6,I9,dK7]
   refine TR n o _ (by simp;omega) (fun k hk=>?_)
   have h3:k<l.length:=by simp at hk;omega
   have:=h2 k h3
   simp only[iA,C6] at this
   simp[this]
  |some p=>
   obtain rfl|⟨q,rfl⟩:p=0\/∃ q,p=q+1:=by
    cases p with
    |zero=>exact .inl rfl
    |succ q=>exact .inr ⟨q,rfl⟩
   case inr=>
    have h4:n=0:=by
     rcases dI6 l.length with h0|h0
     ·omega
     ·have:=h2 0 h0
      simp[iA,C6] at this
    subst h4
    rfl
   simp only[cW1,s6,I9,dK7]
   obtain ⟨bl,hl⟩:=hb b rfl
   rw[hl]
   simp only[aI2]
   have i7:∀ k (hk:k<l.length),bl.cells[o+k]? =some (f l[k]):=fun k hk=>by
    have:=h2 k hk
    simp only[iA,C6,hl,aI2,y7] at this
    exact this
   by_cases h0:n=0
   ·subst h0;simp[F5]
   have h5:o+n<=bl.cells.length:=by
    have:=i7 (n - 1) (by omega)
    have:=(List.getElem?_eq_some_iff.1 this).1
    omega
   rw[Y2 _ _ (by simp;omega)]
   congr 1
   apply List.ext_getElem?
   intro k
   by_cases hk:k<n
   ·simp[hk,i7 k (by omega),cZ8]
    rw[cJ3 (by omega)]
    rfl
   ·rw[cZ1 (by simp;omega),cZ1 (by simp;omega)]
end
theorem bQ4 {n0:Nat} {ord:List Nat}:∀ i,i<n0->C9 n0 ord i=i:=fun i hi=>by
 unfold C9;rw[aO9 (by rw[bA6];exact hi)]
theorem bJ9 {n0 i:Nat} {h:o7} {v:Value} {b:A0} (hv:x9 n0 v= [i]) (hb:i7 h i=some b) (hc:B8 n0 b.cells= []):gc n0 h v=some (U0 (C9 n0 [i]) v,[b]):=by
 unfold gc
 rw[hv]
 have h1:bZ n0 h 1000000 [i] []=some [i]:=by
  show bZ n0 h (999999+1) [i] []=some [i]
  simp only[bZ,p5,hb,aI2,hc,dJ3]
  simp
 simp only[lO,h1,aI2,List.reverse_cons,List.reverse_nil,dJ3,bW,hb,aX8]
 rw[nF (n0:=n0) (fun j hj=>bQ4 j hj) _ hc]
theorem gc_int (n0:Nat) (h:o7) (k:IntKind) (z:Int):gc n0 h (.int k z)=some (.int k z,[]):=rfl
theorem aT5 (n0:Nat) (l:List Value):x9 n0 (.tuple l.toArray)=B8 n0 l:=rfl
theorem cB9 (n0:Nat) (l:List Value):x9 n0 (.agg l.toArray)=B8 n0 l:=rfl
theorem HK (n0 i o p n c:Nat) (h:n0<=i):x9 n0 (.slice (some ⟨i,o,some p⟩) n c)= [i]:=by simp[x9,r6,h]
theorem mT (n0:Nat) (v:Value) (l:List Value):B8 n0 (v::l)=x9 n0 v++B8 n0 l:=rfl
theorem aW4 (g:Nat->Nat) (l:List Value):U0 g (.tuple l.toArray)= .tuple (U9 g l).toArray:=rfl
theorem aW3 (g:Nat->Nat) (v:Value) (l:List Value):U9 g (v::l)=U0 g v::U9 g l:=rfl
theorem JD (g:Nat->Nat) (i o p n c:Nat):U0 g (.slice (some ⟨i,o,some p⟩) n c)= .slice (some ⟨g i,o,some p⟩) n c:=rfl
theorem JC (n0 i:Nat) (h:n0<=i):C9 n0 [i] i=n0:=by
 unfold C9;rw[aQ4 (by rw[bA6];omega)];simp[L9]
theorem bK0 {n0 i o p n c:Nat} {h:o7} {b:A0} (hi:n0<=i) (hb:i7 h i=some b) (hc:B8 n0 b.cells= []):
  gc n0 h (.slice (some ⟨i,o,some p⟩) n c)=some (.slice (some ⟨n0,o,some p⟩) n c,[b]):=by
 rw[bJ9 (HK n0 i o p n c hi) hb hc,JD,JC n0 i hi]
theorem MV {n0 i o p n c:Nat} {h:o7} {b:A0} {k:IntKind} {z:Int} (hi:n0<=i) (hb:i7 h i=some b) (hc:B8 n0 b.cells= []):
  gc n0 h (.tuple [.slice (some ⟨i,o,some p⟩) n c,.int k z].toArray)=some (.tuple [.slice (some ⟨n0,o,some p⟩) n c,.int k z].toArray,[b]):=by
 rw[bJ9 (by rw[aT5,mT,HK n0 i o p n c hi];rfl) hb hc,aW4,aW3,JD,JC n0 i hi]
 rfl
section
variable {old:Nat->Nat->Option Value} {r:Nat} {fns:FuncId->Option p8} {prims:FuncId->List Value->St->Option (Value × List A0)} {n:Nat} {f:FuncId} {xs:List Value} {s:St} {code:AC} {nt:Nat} {res:List (Nat × Option (Option Nat))}
end
theorem GE {v:Value} (h:E0 v=true):v.cells.toList= [v]:=by
 cases v<;>first|rfl|(simp[E0] at h)
def delO (h:o7):Value->o7
 | .slice (some ⟨i,_,some _⟩) _ c=>if c<A5 then h else J1 h i
 |_=>h
structure FJ (lo:Nat) (s:St) (t:TypeId) (e:Nat) (v:Value) (n:Nat) (cs:List Value):Prop where
 is:(v= .slice none 0 0/\n=0/\cs= [])\/∃ i,lo<=i/\i<s.next/\s.prot<=i/\
  ((v= .slice (some ⟨i,0,some 0⟩) 0 0/\n=0/\cs= []/\∃ b,i7 s.heap i=some b)\/
   (v= .slice (some ⟨i,0,some 0⟩) n (A5+n)/\cs.length=n*e/\i7 s.heap i=some ⟨cs,e,true,t⟩))
section
variable {lo:Nat} {s:St} {t:TypeId} {e:Nat} {v:Value} {n:Nat} {cs:List Value}
theorem FJ.nil:FJ lo s t e (.slice none 0 0) 0 []:=⟨O ⟨rfl,rfl,rfl⟩⟩
theorem FJ.bid (o:FJ lo s t e v n cs):qF v<=s.next:=by
 rcases o.is with ⟨rfl,_⟩|⟨i,_,h,_,⟨rfl,_⟩|⟨rfl,_⟩⟩
 ·simp[qF,LN]
 ·simp[qF,LN];omega
 ·simp[qF,LN];omega
theorem FJ.to (o:FJ lo s t e v n cs) {s':St} (hn:s.next<=s'.next) (hp:s'.prot=s.prot) (hh:∀ i,qF v=i+1->i7 s'.heap i=i7 s.heap i):FJ lo s' t e v n cs:=by
 refine ⟨?_⟩
 rcases o.is with h|⟨i,h1,h2,h3,⟨rfl,h4,h5,h6⟩|⟨rfl,h4,h5⟩⟩
 ·exact O h
 ·exact Or.inr ⟨i,h1,by omega,by omega,O ⟨rfl,h4,h5,by rw[hh i rfl];exact h6⟩⟩
 ·exact Or.inr ⟨i,h1,by omega,by omega,Or.inr ⟨rfl,h4,by rw[hh i rfl];exact h5⟩⟩
theorem FJ.push (o:FJ lo s t e v n cs) (bs:List A0) {s':St} (hs:s'=⟨B0 s.heap s.next bs,s.next+bs.length,s.prot⟩):FJ lo s' t e v n cs:=by
 subst hs
 exact o.to (by simp) rfl fun i hi=>iW _ _ _ _ (by have:=o.bid;omega)
theorem FJ.app {E:G3} (o:FJ lo s t e v n cs) {y:Value} {m b:Nat} {new:List Value} (hy:lenA y=some m) (hm:1<=m) (hs:s6 E s.heap e m y=some new) (h1:new.all E0=true)
  (hr:n+m<=s9) (h8:(n+m)*b<=s9):
  bY5 E s t e b v y=some (.slice (some ⟨s.next,0,some 0⟩) (n+m) (A5+(n+m)),⟨B0 (delO s.heap v) s.next [⟨cs++new,e,true,t⟩],s.next+1,s.prot⟩):=by
 have h7:Nat.beq m 0=false:=by rw[Bool.eq_false_iff];exact fun h=>by have:=j9.1 h;omega
 have h9:s9<A5:=by decide
 rcases o.is with ⟨rfl,rfl,rfl⟩|⟨i,g1,g2,g3,⟨rfl,rfl,rfl,bl,g6⟩|⟨rfl,g4,g5⟩⟩
 ·have e1:(Nat.ble (0+m) s9 && Nat.ble ((0+m)*b) s9 && Nat.blt 0 A5 && Nat.blt 0 (0+m))=true:=by simp only[aO3,bA2,bA6];omega
  have e2:s6 E s.heap e 0 (.slice none 0 0)=some []:=rfl
  simp only[bY5,bB,hy,aI2,h7,e1,hs,e2,aX8,delO]
  rfl
 ·have e1:(Nat.ble (0+m) s9 && Nat.ble ((0+m)*b) s9 && Nat.blt 0 A5 && Nat.blt 0 (0+m))=true:=by simp only[aO3,bA2,bA6];omega
  have e2:s6 E s.heap e 0 (.slice (some ⟨i,0,some 0⟩) 0 0)=some []:=by simp[s6,I9,g6,F5]
  simp only[bY5,bB,hy,aI2,h7,e1,hs,e2,aX8,delO]
  rfl
 ·have e1:(Nat.ble (n+m) s9 && Nat.ble ((n+m)*b) s9 && Nat.blt (A5+n) A5 && Nat.blt (A5+n) (n+m))=false:=by
   have:Nat.blt (A5+n) A5=false:=by rw[Bool.eq_false_iff];intro h;rw[bA6] at h;omega
   simp[this]
  have e2:(Nat.ble (n+m) s9 && Nat.ble ((n+m)*b) s9)=true:=by simp only[aO3,bA2];omega
  have e3:Nat.blt (A5+n) A5=false:=by rw[Bool.eq_false_iff];intro h;rw[bA6] at h;omega
  have e4:Nat.ble s.prot i=true:=by rw[bA2];exact g3
  have e5:(true && Nat.beq t t && Nat.beq e e && Nat.beq (0+n*e) cs.length && Nat.beq (A5+n) (A5+n))=true:=by simp[g4]
  have e6:¬ A5+n<A5:=by omega
  have e7:I9 E s.heap ⟨i,0,some 0⟩ 0=some []:=by simp[I9,g5,F5]
  simp only[bY5,bB,kH,hy,aI2,h7,e2,e3,e4,hs,h1,g5,e5,if_true,cS5,if_false,delO,dD7,e6]
  simp only[St.push,dI7,dE6,Bool.false_and,cS5,if_false]
theorem aT3 (h:o7) (v:Value) (j:Nat) (hj:¬ qF v=j+1):i7 (delO h v) j=i7 h j:=by
 unfold delO
 split
 ·rename_i i o p n c
  split
  ·rfl
  ·exact eI _ _ _ (by simp[qF,LN] at hj;omega)
 ·rfl
theorem HX.delO {m:Nat} {h0 h:o7} (hx:HX m h0 h) {v:Value} (hv:qF v=0\/m<qF v):HX m h0 (delO h v):=fun j hj=>by
 rw[aT3 _ _ _ (by omega),hx j hj]
theorem FJ.len (o:FJ lo s t e v n cs):dE4 false v=some (.int .i64 n):=by
 rcases o.is with ⟨rfl,rfl,rfl⟩|⟨i,g1,g2,g3,⟨rfl,rfl,rfl,bl,g6⟩|⟨rfl,g4,g5⟩⟩<;>rfl
end
def newV (nx n:Nat):Value:=if n=0 then .slice none 0 0 else .slice (some ⟨nx,0,some 0⟩) n (A5+n)
def aU5 (t:TypeId) (e n:Nat) (cs:List Value):List A0:=if n=0 then [] else [⟨cs,e,true,t⟩]
theorem Rd.newV {α:Type} {old:Nat->Nat->Option Value} {f:α->Value} (h:o7) (nx:Nat) (t:TypeId) (l:List α):Rd old (B0 h nx (aU5 t 1 l.length (l.map f))) f (newV nx l.length) l:=by
 unfold Itp.newV aU5
 by_cases h0:l.length=0
 ·have:l= []:=List.length_eq_zero_iff.1 h0
  subst this;exact Rd.nil
 ·rw[aQ4 h0,aQ4 h0]
  exact Rd.newb (EY _ _ _ _ rfl) rfl rfl (by unfold B5;rw[aQ4 (by rw[bA6];omega)];omega)
theorem FJ.gc {n0:Nat} {s:St} {t:TypeId} {e:Nat} {v:Value} {n:Nat} {cs:List Value} (o:FJ n0 s t e v n cs) (hn:n=0->v= .slice none 0 0) (hc:B8 n0 cs= []):
  gc n0 s.heap v=some (newV n0 n,aU5 t e n cs):=by
 unfold newV aU5
 by_cases h0:n=0
 ·rw[aO9 h0,aO9 h0,hn h0];rfl
 ·rw[aQ4 h0,aQ4 h0]
  rcases o.is with ⟨rfl,h1,h2⟩|⟨i,g1,g2,g3,⟨rfl,h1,h2,bl,g6⟩|⟨rfl,g4,g5⟩⟩
  ·exact (h0 h1).elim
  ·exact (h0 h1).elim
  ·exact bK0 g1 g5 hc
theorem FJ.gc_int {n0:Nat} {s:St} {t:TypeId} {e:Nat} {v:Value} {n:Nat} {cs:List Value} (o:FJ n0 s t e v n cs) (hn:n=0->v= .slice none 0 0) (hc:B8 n0 cs= []) (k:IntKind) (z:Int):
  Itp.gc n0 s.heap (.tuple [v,.int k z].toArray)=some (.tuple [newV n0 n,.int k z].toArray,aU5 t e n cs):=by
 unfold newV aU5
 by_cases h0:n=0
 ·rw[aO9 h0,aO9 h0,hn h0];rfl
 ·rw[aQ4 h0,aQ4 h0]
  rcases o.is with ⟨rfl,h1,h2⟩|⟨i,g1,g2,g3,⟨rfl,h1,h2,bl,g6⟩|⟨rfl,g4,g5⟩⟩
  ·exact (h0 h1).elim
  ·exact (h0 h1).elim
  ·exact MV g1 g5 hc
theorem Rd.one {α:Type} {old:Nat->Nat->Option Value} {h:o7} {f:α->Value} {v:Value} {l:List α} (r:Rd old h f v l):E0 v=true:=by
 rcases r.is with ⟨a,c,rfl,_⟩|⟨rfl,k,b,n,rfl⟩<;>rfl
theorem OA (v:Value):∀ n,rep [v] n=List.replicate n v
 |0=>rfl
 |n+1=>by simp[rep,OA v n,List.replicate_succ]
theorem P7 (h:o7) (i:Nat) (b:A0):i7 (L6 h i b) i=(i7 h i).map fun _=>b:=by
 induction h with
 |nil=>rfl
 |cons p r ih=>
  obtain ⟨k,u⟩:=p
  simp only[L6]
  by_cases hk:i=k
  ·rw[aO9 (j9.2 hk)];simp[i7,hk]
  ·rw[aQ4 (by rw[j9];exact hk)]
   simp only[i7]
   rw[aQ4 (by rw[j9];exact hk),aQ4 (by rw[j9];exact hk),ih]
end Go.Itp
set_option linter.unusedVariables false
namespace Go.Itp
set_option linter.unusedSimpArgs false
inductive D where
 |sc (x:Value)
 |sl (s n:Nat) (l:List D)
inductive V where
 |sc (x:Value)
 |sl (s n:Nat) (l:List D)
 |slk (s n c:Nat) (l:List D)
 |dp (l:List D) (o:Nat)
 |ref (o k n c:Nat)
 |gr (s o n:Nat)
 |ptr (o k:Nat)
 |agg (l:List V)
 |tup (l:List V)
 |fn (f:FuncId) (a b:List V)
 |ifc (t:TypeId) (v:V)
 |dead
  /-- what a range over a function h4 out: its loop's record -/
 |tok (o:Nat)
inductive Obj where
 |box (t:TypeId) (e:Nat) (l:List V)
 |row (t:TypeId) (e:Nat) (g z:Bool) (l:List D)
 |gro (t:TypeId) (e:Nat) (z:Bool) (l:List D)
abbrev D0:=List (Nat × V)
abbrev E9:=List (Nat × Obj)
structure n9 where
 own:E9
 next:Nat
 ro:Nat
def D2:Value->Bool
 | .bool _=>true
 | .int _ _=>true
 | .string _=>true
 | .nilFunc=>true
 | .nilIface=>true
 | .pointer none=>true
 | .pointer (some a)=>a.spot.isNone
 | .slice none n c=>Nat.beq n 0 && Nat.beq c 0
 | .map none=>true
 | .func (.func _) ⟨a⟩ ⟨b⟩=>a.isEmpty && b.isEmpty
 | .iface _ v=>D2 v
 |_=>false
theorem V0 (n0:Nat):∀ (v:Value),D2 v=true->x9 n0 v= []
 | .pointer none,_=>rfl
 | .pointer (some ⟨b,o,none⟩),_=>rfl
 | .pointer (some ⟨b,o,some k⟩),h=>by simp[D2] at h
 | .slice none n c,_=>rfl
 | .slice (some a) n c,h=>by simp[D2] at h
 | .func f ⟨a⟩ ⟨b⟩,h=>by
  cases f with
  |func f=>
   simp[D2] at h
   obtain ⟨rfl,rfl⟩:=h
   simp[x9,B8]
  |_=>simp[D2] at h
 | .iface t v,h=>by simp only[D2] at h;simp only[x9];exact V0 n0 v h
 | .agg _,h=>by simp[D2] at h
 | .tuple _,h=>by simp[D2] at h
 | .bool _,_=>rfl
 | .int _ _,_=>rfl
 | .float _ _,_=>rfl
 | .complex _ _ _,h=>by simp[D2] at h
 | .string _,_=>rfl
 | .map _,_=>rfl
 | .chan _,h=>by simp[D2] at h
 | .nilFunc,_=>rfl
 | .nilIface,_=>rfl
theorem rW (v:Value) (h:D2 v=true):E0 v=true:=by
 cases v<;>first|rfl|(simp[D2] at h)
structure VW where
 ld:Addr->Option Value
 F:Nat->Prop
 μ:Nat->Option Nat
 nx:Nat
def VW.inF (w:VW) (a:Addr):Prop:=match a.spot with|none=>True|some _=>w.F a.block
def I4 (n c:Nat):Prop:=n<=B5 c
mutual
def A1 (w:VW):D->Value->Prop
 | .sc x,v=>v=x/\D2 x=true
 | .sl s n l,v=>(∃ a c,v= .slice (some a) n c/\w.inF a/\I4 n c/\A6 w l a/\(s=2->n ≠ 0))\/(s ≠ 0/\n=0/\l= []/\(v= .slice none 0 0\/s=1/\∃ k b e,v= .complex k b e))
def A6 (w:VW):List D->Addr->Prop
 | [],_=>True
 |d::r,a=>(∃ v,w.ld a=some v/\A1 w d v)/\A6 w r (C6 a 1)
end
def m6 (w:VW):List D->List Value->Prop
 | [],vs=>vs= []
 |d::r,vs=>∃ v vs',vs=v::vs'/\A1 w d v/\m6 w r vs'
mutual
def f9 (w:VW):V->Value->Prop
 | .sc x,v=>v=x/\D2 x=true
 | .sl s n l,v=>A1 w (.sl s n l) v
 | .slk s n c l,v=>c<A5/\n<=c/\((∃ a,v= .slice (some a) n c/\w.inF a/\A6 w l a)\/(s ≠ 0/\n=0/\c=0/\l= []/\v= .slice none 0 0))
 | .dp l o,v=>∃ a,v= .pointer (some (C6 a o))/\w.inF a/\A6 w l a
 | .ref o k n c,v=>o<w.nx/\I4 n c/\∃ b',v= .slice (some ⟨b',k,some 0⟩) n c/\∀ b,w.μ o=some b->b'=b
 | .gr s o n,v=>o<w.nx/\((n=0/\(v= .slice none 0 0\/s ≠ 2/\∃ a c,v= .slice (some a) 0 c/\w.inF a))\/(n ≠ 0/\∃ b',v= .slice (some ⟨b',0,some 0⟩) n (A5+n)/\∀ b,w.μ o=some b->b'=b))
 | .ptr o k,v=>o<w.nx/\∃ b',v= .pointer (some ⟨b',k,some 0⟩)/\∀ b,w.μ o=some b->b'=b
 | .agg l,v=>∃ vs,v= .agg ⟨vs⟩/\i6 w l vs
 | .tup l,v=>∃ vs,v= .tuple ⟨vs⟩/\i6 w l vs
 | .fn f a b,v=>∃ as bs,v= .func (.func f) ⟨as⟩ ⟨bs⟩/\i6 w a as/\i6 w b bs
 | .ifc t u,v=>∃ v',v= .iface t v'/\f9 w u v'
 | .dead,_=>True
 | .tok o,v=>o<w.nx/\∃ b',v= .chan (some b')/\∀ b,w.μ o=some b->b'=b
def i6 (w:VW):List V->List Value->Prop
 | [],vs=>vs= []
 |d::r,vs=>∃ v vs',vs=v::vs'/\f9 w d v/\i6 w r vs'
end
structure VW.le (w w':VW):Prop where
 ld:∀ a,w.inF a->w'.ld a=w.ld a
 F:∀ b,w.F b->w'.F b
 nx:w.nx<=w'.nx
 μ:∀ o b,o<w.nx->w'.μ o=some b->w.μ o=some b
theorem VW.le.inF {w w':VW} (h:VW.le w w') {a:Addr} (i:w.inF a):w'.inF a:=by
 unfold VW.inF at i ⊢
 split
 ·trivial
 ·rename_i hs
  rw[hs] at i
  exact h.F _ i
theorem mW {w:VW} {a:Addr} {n:Nat} (i:w.inF a):w.inF (C6 a n):=i
mutual
theorem A1.mono {w w':VW} (h:VW.le w w'):∀ {d:D} {v:Value},A1 w d v->A1 w' d v
 | .sc x,v,r=>by simp only[A1] at r ⊢;exact r
 | .sl s n l,v,r=>by
  simp only[A1] at r ⊢
  rcases r with ⟨a,c,e,i,k,r,q⟩|r
  ·exact .inl ⟨a,c,e,h.inF i,k,A6.mono h i r,q⟩
  ·exact .inr r
theorem A6.mono {w w':VW} (h:VW.le w w'):∀ {l:List D} {a:Addr},w.inF a->A6 w l a->A6 w' l a
 | [],a,_,_=>by simp only[A6]
 |d::r,a,i,q=>by
  simp only[A6] at q ⊢
  obtain ⟨⟨v,h1,h2⟩,h3⟩:=q
  exact ⟨⟨v,by rw[h.ld a i];exact h1,A1.mono h h2⟩,A6.mono h (mW i) h3⟩
end
theorem m6.mono {w w':VW} (h:VW.le w w'):∀ {l:List D} {vs:List Value},m6 w l vs->m6 w' l vs
 | [],vs,r=>r
 |d::r,vs,q=>by
  obtain ⟨v,vs',e,h1,h2⟩:=q
  exact ⟨v,vs',e,A1.mono h h1,m6.mono h h2⟩
mutual
theorem f9.mono {w w':VW} (h:VW.le w w'):∀ {d:V} {v:Value},f9 w d v->f9 w' d v
 | .sc x,v,r=>by simp only[f9] at r ⊢;exact r
 | .sl s n l,v,r=>by simp only[f9] at r ⊢;exact A1.mono h r
 | .slk s n c l,v,r=>by
  simp only[f9] at r ⊢
  refine ⟨r.1,r.2.1,r.2.2.imp ?_ id⟩
  rintro ⟨a,e,i,r⟩
  exact ⟨a,e,h.inF i,A6.mono h i r⟩
 | .dp l o,v,r=>by
  simp only[f9] at r ⊢
  obtain ⟨a,e,i,r⟩:=r
  exact ⟨a,e,h.inF i,A6.mono h i r⟩
 | .ref o k n c,v,r=>by
  simp only[f9] at r ⊢
  obtain ⟨h1,h2,b',e,r⟩:=r
  exact ⟨dJ0 h1 h.nx,h2,b',e,fun b hb=>r b (h.μ o b h1 hb)⟩
 | .gr s o n,v,r=>by
  simp only[f9] at r ⊢
  obtain ⟨h1,r⟩:=r
  refine ⟨dJ0 h1 h.nx,r.imp (And.imp id (Or.imp id (And.imp id ?_))) ?_⟩
  ·rintro ⟨a,c,e,i⟩
   exact ⟨a,c,e,h.inF i⟩
  ·rintro ⟨h2,b',e,r⟩
   exact ⟨h2,b',e,fun b hb=>r b (h.μ o b h1 hb)⟩
 | .ptr o k,v,r=>by
  simp only[f9] at r ⊢
  obtain ⟨h1,b',e,r⟩:=r
  exact ⟨dJ0 h1 h.nx,b',e,fun b hb=>r b (h.μ o b h1 hb)⟩
 | .agg l,v,r=>by
  simp only[f9] at r ⊢
  obtain ⟨vs,e,r⟩:=r
  exact ⟨vs,e,i6.mono h r⟩
 | .tup l,v,r=>by
  simp only[f9] at r ⊢
  obtain ⟨vs,e,r⟩:=r
  exact ⟨vs,e,i6.mono h r⟩
 | .fn f a b,v,r=>by
  simp only[f9] at r ⊢
  obtain ⟨vs,us,e,r,q⟩:=r
  exact ⟨vs,us,e,i6.mono h r,i6.mono h q⟩
 | .ifc t u,v,r=>by
  simp only[f9] at r ⊢
  obtain ⟨v',e,r⟩:=r
  exact ⟨v',e,f9.mono h r⟩
 | .dead,v,_=>by simp only[f9]
 | .tok o,v,r=>by
  simp only[f9] at r ⊢
  obtain ⟨h1,b',e,r⟩:=r
  exact ⟨dJ0 h1 h.nx,b',e,fun b hb=>r b (h.μ o b h1 hb)⟩
theorem i6.mono {w w':VW} (h:VW.le w w'):∀ {l:List V} {vs:List Value},i6 w l vs->i6 w' l vs
 | [],vs,r=>by simp only[i6] at r ⊢;exact r
 |d::r,vs,q=>by
  simp only[i6] at q ⊢
  obtain ⟨v,vs',e,h1,h2⟩:=q
  exact ⟨v,vs',e,f9.mono h h1,i6.mono h h2⟩
end
def j7 {α:Type}:List (Nat × α)->Nat->Option α
 | [],_=>none
 |(j,v)::r,i=>if Nat.beq i j then some v else j7 r i
def oQ {α:Type}:List (Nat × α)->Nat->α->List (Nat × α)
 | [],i,v=> [(i,v)]
 |(j,u)::r,i,v=>if Nat.beq i j then (i,v)::r else if Nat.blt i j then (i,v)::(j,u)::r else (j,u)::oQ r i v
def u7 {α:Type} (fr:List (Nat × α)) (d:Option Nat) (v:α):List (Nat × α):=match d with|some i=>oQ fr i v|none=>fr
def A3 {α:Type}:List (Nat × α)->Nat->α->List (Nat × α)
 | [],_,_=> []
 |(j,u)::r,i,v=>if Nat.beq i j then (j,v)::r else (j,u)::A3 r i v
def J6 {α:Type} (i:Nat):List (Nat × α)->List (Nat × α)
 | []=> []
 |(j,u)::r=>if Nat.beq i j then J6 i r else (j,u)::J6 i r
def A8 {α:Type} (ks:List Nat):List (Nat × α)->List (Nat × α)
 | []=> []
 |(j,v)::r=>if p5 j ks then (j,v)::A8 ks r else A8 ks r
theorem n5 {α:Type} (j:Nat) (v:α) (r:List (Nat × α)) (i:Nat):j7 ((j,v)::r) i=if i=j then some v else j7 r i:=by
 simp only[j7]
 by_cases h:i=j
 ·rw[aO9 (j9.2 h),aO9 h]
 ·rw[aQ4 (by rw[j9];exact h),aQ4 h]
theorem mG {α:Type}:∀ (r:List (Nat × α)) (i j:Nat) (v:α),j7 (oQ r i v) j=if j=i then some v else j7 r j
 | [],i,j,v=>by simp only[oQ];rw[n5]
 |(k,u)::r,i,j,v=>by
  simp only[oQ]
  split
  ·rename_i h
   have:=j9.1 h
   subst this
   rw[n5,n5]
   split<;>rfl
  ·rename_i h
   rw[j9] at h
   split
   ·rw[n5]
   ·rw[n5,mG r i j v,n5]
    by_cases hj:j=k
    ·subst hj;rw[aO9 rfl,aQ4 (fun e=>h e.symm),aO9 rfl]
    ·rw[aQ4 hj,aQ4 hj]
theorem H7 {α:Type}:∀ (r:List (Nat × α)) (i j:Nat) (v c:α),j7 r i=some c->j7 (A3 r i v) j=if j=i then some v else j7 r j
 | [],i,j,v,c,h=>by cases h
 |(k,u)::r,i,j,v,c,h=>by
  rw[n5] at h
  simp only[A3]
  split
  ·rename_i hk
   have:=j9.1 hk
   subst this
   rw[n5,n5]
   split<;>rfl
  ·rename_i hk
   rw[j9] at hk
   rw[aQ4 hk] at h
   rw[n5,H7 r i j v c h,n5]
   by_cases hj:j=k
   ·subst hj;rw[aO9 rfl,aQ4 (fun e=>hk e.symm),aO9 rfl]
   ·rw[aQ4 hj,aQ4 hj]
theorem N2 {α:Type}:∀ (r:List (Nat × α)) (i j:Nat),j7 (J6 i r) j=if j=i then none else j7 r j
 | [],i,j=>by simp[J6,j7]
 |(k,u)::r,i,j=>by
  simp only[J6]
  split
  ·rename_i hk
   have:=j9.1 hk
   subst this
   rw[N2 r i j,n5]
   split<;>rfl
  ·rename_i hk
   rw[j9] at hk
   rw[n5,N2 r i j,n5]
   by_cases hj:j=k
   ·subst hj;rw[aO9 rfl,aQ4 (fun e=>hk e.symm),aO9 rfl]
   ·rw[aQ4 hj,aQ4 hj]
theorem oM {α:Type} (ks:List Nat):∀ (r:List (Nat × α)) (j:Nat) (v:α),j7 (A8 ks r) j=some v->j7 r j=some v/\j ∈ ks
 | [],j,v,h=>by cases h
 |(k,u)::r,j,v,h=>by
  simp only[A8] at h
  split at h
  ·rename_i hk
   rw[n5] at h ⊢
   by_cases hj:j=k
   ·subst hj;rw[aO9 rfl] at h ⊢;exact ⟨h,(m7 _ _).1 hk⟩
   ·rw[aQ4 hj] at h ⊢;exact oM ks r j v h
  ·rename_i hk
   have h2:=oM ks r j v h
   rw[n5]
   by_cases hj:j=k
   ·subst hj;exact absurd ((m7 _ _).2 h2.2) hk
   ·rw[aQ4 hj];exact h2
def kB (w:VW):Obj->A0->Prop
 | .box t e l,b=>b.esz=e/\b.grow=false/\b.ty=t/\i6 w l b.cells
 | .row t e g _ l,b=>b.esz=e/\b.grow=g/\b.ty=t/\m6 w l b.cells
 | .gro t e z l,b=>b.esz=e/\b.grow=true/\b.ty=t/\m6 w l b.cells
theorem kB.mono {w w':VW} (h:VW.le w w'):∀ {o:Obj} {b:A0},kB w o b->kB w' o b
 | .box t e l,b,r=>⟨r.1,r.2.1,r.2.2.1,i6.mono h r.2.2.2⟩
 | .row t e g z l,b,r=>⟨r.1,r.2.1,r.2.2.1,m6.mono h r.2.2.2⟩
 | .gro t e z l,b,r=>⟨r.1,r.2.1,r.2.2.1,m6.mono h r.2.2.2⟩
def Obj.fz:Obj->Bool
 | .row _ _ _ z _=>z
 | .gro _ _ z _=>z
 |_=>false
def EQ:D->Bool
 | .sc _=>true
 | .sl s n _=> !Nat.beq s 1|| !Nat.beq n 0
def Q1 (l:List D):Bool:=l.all EQ
def Obj.ok:Obj->Bool
 | .row _ _ _ _ l=>Q1 l
 | .gro _ _ _ l=>Q1 l
 |_=>true
def Obj.none:Obj->Bool
 | .gro _ _ _ []=>true
 |_=>false
structure C8 where
 E:G3
 n0:Nat
 h0:o7
 U:Nat->Prop
 w0:VW
 p0:Nat
abbrev x8 (C:C8) (st:n9) (s:St) (μ:Nat->Option Nat) (F:Nat->Prop):VW:=⟨p9 C.E s.heap,F,μ,st.next⟩
structure SR (C:C8) (st:n9) (s:St) (μ:Nat->Option Nat) (F:Nat->Prop):Prop where
 obj:∀ o ob,j7 st.own o=some ob->ob.none=false->∃ b blk,μ o=some b/\i7 s.heap b=some blk/\kB (x8 C st s μ F) ob blk
 wr:∀ o ob b,j7 st.own o=some ob->μ o=some b->ob.fz=false->¬ F b/\(st.ro<=o->s.prot<=b/\¬ C.U b)
 fz:∀ o ob b,j7 st.own o=some ob->μ o=some b->ob.fz=true->F b
 inj:∀ o o' b,μ o=some b->μ o'=some b->o=o'
 dom:∀ o b,μ o=some b->b<s.next/\o<st.next/\∃ ob,j7 st.own o=some ob/\ob.none=false
 lt:∀ b,F b->b<s.next/\∃ blk,i7 s.heap b=some blk
 cl:∀ b,F b->∃ blk,i7 s.heap b=some blk/\∀ n,∀ i ∈ B8 n blk.cells,F i
 un:∀ b,C.U b->b<C.n0/\i7 s.heap b=i7 C.h0 b
 n0:C.n0<=s.next
 own:∀ o ob,j7 st.own o=some ob->o<st.next/\ob.ok=true
 hb:∀ b blk,i7 s.heap b=some blk->b<s.next
 pr:s.prot<=s.next
 pb:∀ o b,μ o=some b->st.ro<=o->s.prot<=b
def FR (w:VW) (fr:D0) (frI:Fr):Prop:=∀ t v,j7 fr t=some v->∃ vI,I0 frI t=some vI/\f9 w v vI
theorem FR.mono {w w':VW} (h:VW.le w w') {fr:D0} {frI:Fr} (r:FR w fr frI):FR w' fr frI:=fun t v e=>by
 obtain ⟨vI,h1,h2⟩:=r t v e
 exact ⟨vI,h1,f9.mono h h2⟩
theorem zP:∀ (fr:Fr) (i j:Nat) (v:Value),I0 (tO fr i v) j=if j=i then some v else I0 fr j
 | [],i,j,v=>by rw[bH7,L1]
 |(k,u)::r,i,j,v=>by
  rw[ZN,L1]
  split
  ·rename_i h
   subst h
   rw[L1]
   split<;>rfl
  ·rename_i h
   split
   ·rw[L1,L1]
   ·rw[L1,zP r i j v]
    by_cases hj:j=k
    ·subst hj;rw[aO9 rfl,aQ4 (fun e=>h e.symm),aO9 rfl]
    ·rw[aQ4 hj,aQ4 hj]
theorem FR.put {w:VW} {fr:D0} {frI:Fr} (r:FR w fr frI) {v:V} {vI:Value} (h:f9 w v vI) (d:Option Nat):FR w (u7 fr d v) (J0 frI d vI):=by
 cases d with
 |none=>exact r
 |some i=>
  intro t u e
  simp only[u7,J0] at e ⊢
  rw[mG] at e
  rw[zP]
  by_cases ht:t=i
  ·rw[aO9 ht] at e ⊢
   cases e;exact ⟨vI,rfl,h⟩
  ·rw[aQ4 ht] at e ⊢
   exact r t u e
theorem L8 (ks:List Nat):∀ (fr:Fr) (j:Nat),j ∈ ks->I0 (u9 ks fr) j=I0 fr j
 | [],j,_=>rfl
 |(k,u)::r,j,h=>by
  rw[RO,L1]
  split
  ·rw[L1,L8 ks r j h]
  ·rename_i hk
   rw[L8 ks r j h]
   by_cases hj:j=k
   ·subst hj;exact absurd ((m7 _ _).2 h) hk
   ·rw[aQ4 hj]
theorem FR.keep {w:VW} {fr:D0} {frI:Fr} (r:FR w fr frI) (ks:List Nat):FR w (A8 ks fr) (u9 ks frI):=fun t v e=>by
 obtain ⟨e1,e2⟩:=oM ks fr t v e
 obtain ⟨vI,h1,h2⟩:=r t v e1
 exact ⟨vI,by rw[L8 ks frI t e2];exact h1,h2⟩
end Go.Itp
namespace Go.Itp
set_option linter.unusedVariables false
set_option linter.constructorNameAsVariable false
set_option linter.unusedSimpArgs false
def s5 (fr:D0):Operand->Option V
 | .tmp t=>j7 fr t
 | .const v=>if D2 v then some (.sc v) else none
 | .global g=>some (.sc (.pointer (some ⟨g,0,none⟩)))
 | .func f=>some (.sc (.func (.func f) #[] #[]))
def V3 (fr:D0):List Operand->Option (List V)
 | []=>some []
 |x::r=>(s5 fr x).bind fun v=>(V3 fr r).bind fun vs=>some (v::vs)
def Y7 (fr:D0):Option Operand->Option (Option Value)
 |none=>some none
 |some x=>(s5 fr x).bind fun v=>match v with
   | .sc (.int k i)=>some (some (.int k i))
   |_=>none
def N6 (fr:D0):List (Nat × Nat × Operand)->Option (List (Nat × Nat × V))
 | []=>some []
 |(o,n,x)::r=>(s5 fr x).bind fun v=>(N6 fr r).bind fun vs=>some ((o,n,v)::vs)
def dM:V->Bool
 | .agg _=>false
 | .tup _=>false
 | .dead=>false
 | .tok _=>false
 |_=>true
def O5:V->Option (List V)
 | .agg l=>if l.all dM then some l else none
 | .tup _=>none
 | .dead=>none
 | .tok _=>none
 |v=>some [v]
def dv:D->V
 | .sc x=> .sc x
 | .sl s n l=> .sl s n l
def sM:List D->List V
 | []=> []
 |d::r=>dv d::sM r
def dS (H:E9):V->Option D
 | .sc x=>some (.sc x)
 | .sl s n l=>if EQ (.sl s n l) then some (.sl s n l) else none
 | .slk s n _ l=>if Nat.beq s 0||Nat.beq s 3 then some (.sl s n l) else none
 | .ref o k n c=>match j7 H o with
   |some (.row _ e _ _ l)=>if k+n*e<=l.length then some (.sl 0 n ((l.drop k).take (n*e))) else none
   |_=>none
 | .gr s o n=>match j7 H o with
   |some (.gro _ e _ l)=>if l.length=n*e/\s ≠ 0/\s ≠ 1/\e ≠ 0 then some (.sl s n l) else none
   |_=>none
 |_=>none
def cM (H:E9):List V->Option (List D)
 | []=>some []
 |v::r=>(dS H v).bind fun d=>(cM H r).map (d::·)
def WS:V->Option D
 | .sc x=>some (.sc x)
 | .sl s n l=>if EQ (.sl s n l) then some (.sl s n l) else none
 | .slk s n _ l=>if Nat.beq s 0||Nat.beq s 3 then some (.sl s n l) else none
 |_=>none
def KG:List V->Option (List D)
 | []=>some []
 |v::r=>(WS v).bind fun d=>(KG r).map (d::·)
def xR:V->List Nat
 | .ref o _ _ _=> [o]
 | .gr _ o _=> [o]
 |_=> []
def nS:List V->List Nat
 | []=> []
 |v::r=>xR v++nS r
def F8 {α:Type}:List α->Nat->List α->Option (List α)
 |cs,_,[]=>some cs
 | [],_,_::_=>none
 |_::cs,0,v::vs=>(F8 cs 0 vs).map (v::·)
 |c::cs,n+1,vs=>(F8 cs n vs).map (c::·)
def bS:List V->List (Nat × Nat × V)->Option (List V)
 |cs,[]=>some cs
 |cs,(o,n,v)::r=>(O5 v).bind fun l=>if Nat.beq l.length n && Nat.ble (o+n) cs.length then (F8 cs o l).bind fun cs=>bS cs r else none
def kM:List D->List (Nat × Nat × V)->Option (List D)
 |cs,[]=>some cs
 |cs,(o,n,v)::r=>(O5 v).bind fun l=>(KG l).bind fun l=>if Nat.beq l.length n && Nat.ble (o+n) cs.length then (F8 cs o l).bind fun cs=>kM cs r else none
def scL (z:List Value):List V:=z.map .sc
def pN (z:List Value):List D:=z.map .sc
def C0 (l:List D) (k:Nat):Option Nat->Option V
 |none=>(E1 l k).map dv
 |some n=>if Nat.beq n 0 then none else (F5 (l.drop k) n).map fun l=> .agg (sM l)
def yR (l:List V) (k:Nat):Option Nat->Option V
 |none=>E1 l k
 |some n=>(F5 (l.drop k) n).map .agg
def dU (old:Nat->Nat->Option Value) (H:E9) (g:Option Nat):V->Option V
 | .ptr o k=>match j7 H o with
   |some (.box _ _ l)=>yR l k g
   |some (.row _ _ _ _ l)=>C0 l k g
   |some (.gro _ _ _ l)=>C0 l k g
   |none=>none
 | .dp l k=>C0 l k g
 | .sc (.pointer (some a))=>match g with
   |none=>(old a.block a.off).bind fun v=>if D2 v then some (.sc v) else none
   |some _=>none
 |_=>none
def uN (n c:Nat) (lo hi mx:Option Value):Option (Nat × Nat × Nat × Bool):=
 match mx with
 |none=>
  (z8 hi n (B5 c)).bind fun h=>(z8 lo 0 h).bind fun l=>
   if Nat.blt c A5 then some (l,h,c - l,Nat.beq c l)
   else if Nat.blt l (c - A5) then some (l,h,c - l,false)
   else if Nat.beq l 0 then some (0,h,c,true) else none
 |some m=>
  (z8 (some m) 0 (B5 c)).bind fun m=>if Nat.blt m A5 && hi.isSome then
   (z8 hi n m).bind fun h=>(z8 lo 0 h).bind fun l=>some (l,h,m - l,Nat.beq m l)
   else none
def uO (n:Nat) (lo hi:Option Value):Option (Nat × Nat):=(z8 hi n n).bind fun h=>(z8 lo 0 h).bind fun l=>some (l,h)
def partD (l:List D) (a b:Nat):List D:=(l.drop a).take (b - a)
def cO (e:Nat) (lo hi mx:Option Value):V->Option V
 | .ref o k n c=>(uN n c lo hi mx).map fun r=> .ref o (if r.2.2.2 then k else k+r.1*e) (r.2.1 - r.1) r.2.2.1
 | .gr s o n=>if Nat.beq n 0 then none else (uN n (A5+n) lo hi mx).map fun r=> .ref o (if r.2.2.2 then 0 else r.1*e) (r.2.1 - r.1) r.2.2.1
 | .sl s n l=>if EQ (.sl s n l) then (match mx with
   |none=>(uO n lo hi).map fun r=> .sl (if Nat.beq s 0 then 0 else 3) (r.2 - r.1) (partD l (r.1*e) (r.2*e))
   |some m=>(z8 (some m) 0 n).bind fun m=>if Nat.blt m A5 && hi.isSome then
     (z8 hi n m).bind fun h=>(z8 lo 0 h).bind fun l'=>some (.slk (if Nat.beq s 0 then 0 else 3) (h - l') (m - l') (partD l (l'*e) (h*e))) else none) else none
 | .slk s n c l=>match mx with
   |none=>(uO n lo hi).map fun r=> .slk s (r.2 - r.1) (c - r.1) (partD l (r.1*e) (r.2*e))
   |some _=>none
 | .sc (.slice none _ _)=>match mx with
   |none=>(uO 0 lo hi).map fun _=> .sc (.slice none 0 0)
   |some m=>(z8 (some m) 0 0).bind fun _=>if hi.isSome then (uO 0 lo hi).map fun _=> .sc (.slice none 0 0) else none
 |_=>none
def I1 (k:Nat):V->Option Bool
 | .sc v=>tW k v
 | .sl s n _=>if Nat.beq k 1 then (if Nat.beq s 0 then some false else if Nat.beq s 2 then some (Nat.beq n 0) else if Nat.beq n 0 then none else some false) else none
 | .slk s n _ _=>if Nat.beq k 1 then (if Nat.beq s 0 then some false else if Nat.beq n 0 then none else some false) else none
 | .ref _ _ _ _=>if Nat.beq k 1 then some false else none
 | .gr s _ n=>if Nat.beq k 1 then (if Nat.beq s 2 then some (Nat.beq n 0) else if Nat.beq n 0 then none else some false) else none
 | .ptr _ _=>if Nat.beq k 0 then some false else none
 | .dp _ _=>if Nat.beq k 0 then some false else none
 | .fn _ _ _=>if Nat.beq k 3 then some false else none
 |_=>none
def Y1:V->Option Nat
 | .sl _ n _=>some n
 | .slk _ n _ _=>some n
 | .ref _ _ n _=>some n
 | .gr _ _ n=>some n
 | .sc (.slice none _ _)=>some 0
 |_=>none
def M6 (H:E9) (e m:Nat):V->Option (List D × List Nat)
 | .sl _ n l=>if l.length=n*e/\m<=n then some (l.take (m*e),[]) else none
 | .slk _ n _ l=>if l.length=n*e/\m<=n then some (l.take (m*e),[]) else none
 | .ref o k n _=>match j7 H o with
   |some (.row _ _ _ _ l)=>if k+m*e<=l.length then some ((l.drop k).take (m*e),[]) else none
   |some (.gro _ _ _ l)=>if k+m*e<=l.length/\m ≠ 0/\e ≠ 0 then some ((l.drop k).take (m*e),[]) else none
   |some (.box _ _ l)=>if k+m*e<=l.length then (cM H ((l.drop k).take (m*e))).map fun ds=>(ds,nS ((l.drop k).take (m*e))) else none
   |_=>none
 | .gr _ o n=>match j7 H o with
   |some (.gro _ _ _ l)=>if l.length=n*e/\m<=n/\e ≠ 0 then some (l.take (m*e),[]) else none
   |_=>none
 | .sc (.slice none _ _)=>if Nat.beq m 0 then some ([],[]) else none
 | .sc (.string s)=>if Nat.beq e 1 && Nat.ble m s.size then some ((s.data.toList.take m).map fun b=> .sc (.int .u8 b.toNat),[]) else none
 |_=>none
def T6:V->Option Nat
 | .sc (.string s)=>some s.size
 |v=>Y1 v
def E4:List D->Option (List UInt8)
 | []=>some []
 | .sc (.int .u8 n)::r=>(E4 r).map (UInt8.ofNat n.toNat::·)
 |_::_=>none
def okV:V->Bool
 | .sl s n l=>EQ (.sl s n l)
 |_=>true
abbrev VO:=Option (V × Option Obj × List Nat)
def vp (v:Option V):VO:=v.map fun v=>(v,none,[])
def oI (H:E9) (nx:Nat) (t:TypeId) (e b:Nat) (x y:V):VO:=
 (T6 y).bind fun m=>(M6 H e m y).bind fun new=>
  if Nat.beq m 0 then (match x with
   | .sl s n l=>if EQ (.sl s n l) then some (.sl s n l,none,[]) else none
   | .slk s n c l=>some (.slk s n c l,none,[])
   | .ref o k n c=>some (.ref o k n c,none,[])
   | .sc (.slice none _ _)=>some (.sc (.slice none 0 0),none,[])
   |_=>none)
  else if Q1 new.1 && !Nat.beq e 0 then (match x with
   | .sc (.slice none _ _)=>if Nat.ble m s9 && Nat.ble (m*b) s9 then some (.gr 2 nx m,some (.gro t e false new.1),new.2) else none
   | .slk s n c l=>if l.length=n*e/\Nat.blt c (n+m) && Q1 l && Nat.ble (n+m) s9 && Nat.ble ((n+m)*b) s9 then some (.gr 2 nx (n+m),some (.gro t e false (l++new.1)),new.2) else none
   | .ref o k n c=>if Nat.blt c A5 && Nat.blt c (n+m) && Nat.ble (n+m) s9 && Nat.ble ((n+m)*b) s9 then
     (M6 H e n (.ref o k n c)).bind fun cs=>if Q1 cs.1 then some (.gr 2 nx (n+m),some (.gro t e false (cs.1++new.1)),cs.2++new.2) else none else none
   |_=>none) else none
def DT (nx:Nat) (t:TypeId) (e b:Nat) (z:List Value):V->V->VO
 |x,.sc (.int .i64 n)=>
  if n=0 then (match x with
   | .sl s n l=>if EQ (.sl s n l) then some (.sl s n l,none,[]) else none
   | .slk s n c l=>some (.slk s n c l,none,[])
   | .ref o k n c=>some (.ref o k n c,none,[])
   | .sc (.slice none _ _)=>some (.sc (.slice none 0 0),none,[])
   |_=>none)
  else if 0<n/\n<=s9/\z.all D2=true/\z ≠ [] then (match x with
   | .sc (.slice none _ _)=>if Nat.ble (n.toNat*b) s9 then some (.gr 2 nx n.toNat,some (.gro t e false (pN (rep z n.toNat))),[]) else none
   | .slk _ k c l=>if l.length=k*e/\Nat.blt c (k+n.toNat) && Q1 l && Nat.ble (k+n.toNat) s9 && Nat.ble ((k+n.toNat)*b) s9 then some (.gr 2 nx (k+n.toNat),some (.gro t e false (l++pN (rep z n.toNat))),[]) else none
   |_=>none)
  else none
 |_,_=>none
def aT (c:Nat):Option V->Option V->Option Bool
 |some (.sc a),some (.sc b)=>tH c a b
 |_,_=>none
def LJ:Option Bool->Option Bool->Option Bool
 |some true,q=>q
 |some false,_=>some false
 |none,_=>none
def X7:List (Nat × Nat)->List V->List V->Option Bool
 | [],_,_=>some true
 |(o,c)::r,xs,ys=>LJ (aT c (E1 xs o) (E1 ys o)) (X7 r xs ys)
def kO (neg:Bool) (ps:List (Nat × Nat)):V->V->Option V
 | .agg xs,.agg ys=>(X7 ps xs ys).map fun r=> .sc (.bool (if neg then !r else r))
 |_,_=>none
def j6 (old:Nat->Nat->Option Value) (fr:D0) (H:E9) (nx:Nat):M8->VO
 | .mov x=>vp (s5 fr x)
 | .pick c a b=>(s5 fr c).bind fun c=>match c with| .sc (.bool t)=>vp (s5 fr (if t then a else b))|_=>none
 | .alloc t z=>if (X9 z).all D2 then some (.ptr nx 0,some (.box t 1 (scL (X9 z))),[]) else none
 | .box t x=>(s5 fr x).bind fun v=>(O5 v).bind fun cs=>some (.ptr nx 0,some (.box t 1 cs),[])
 | .build z ps=>if z.all D2 then (N6 fr ps).bind fun ps=>vp ((bS (scL z) ps).map .agg) else none
 | .mkRow t e n z ps=>if (rep z n).all D2 && Nat.blt n A5 then (N6 fr ps).bind fun ps=>(match kM (pN (rep z n)) ps with
   |some cs=>some (.ref nx 0 n n,some (.row t e false false cs),[])
   |none=>(bS (scL (rep z n)) ps).bind fun cs=>some (.ref nx 0 n n,some (.box t e cs),[])) else none
 | .load g a=>(s5 fr a).bind fun a=>vp (dU old H g a)
 | .nilChk x=>(s5 fr x).bind fun v=>match v with
   | .ptr o k=>some (.ptr o k,none,[])
   | .dp l o=>some (.dp l o,none,[])
   | .fn f a b=>some (.fn f a b,none,[])
   | .ifc t v=>some (.ifc t v,none,[])
   | .sc (.iface t v)=>some (.sc (.iface t v),none,[])
   | .sc (.func (.func f) a b)=>some (.sc (.func (.func f) a b),none,[])
   | .sc (.pointer (some a))=>some (.sc (.pointer (some a)),none,[])
   |_=>none
 | .bin op x y=>(s5 fr x).bind fun a=>(s5 fr y).bind fun b=>match a,b with
   | .sc a,.sc b=>vp ((K8 op a b).map .sc)
   |_,_=>none
 | .eqB neg x y=>(s5 fr x).bind fun a=>(s5 fr y).bind fun b=>match a,b with
   | .sc (.bool a),.sc (.bool b)=>some (.sc (.bool (if neg then !(a==b) else a==b)),none,[])
   |_,_=>none
 | .eqNil k neg x y=>(s5 fr x).bind fun a=>(s5 fr y).bind fun b=>(I1 k a).bind fun p=>(I1 k b).bind fun q=>if p||q then some (.sc (.bool (if neg then !(p && q) else p && q)),none,[]) else none
 | .un op x=>(s5 fr x).bind fun v=>match v with
   | .sc v=>vp ((unA op v).map .sc)
   |_=>none
 | .convI k x=>(s5 fr x).bind fun v=>match v with
   | .sc (.int _ n)=>some (.sc (.int k (k.wrap n)),none,[])
   |_=>none
 | .convS _=>none
 | .b2s x=>(s5 fr x).bind fun v=>if okV v then (Y1 v).bind fun n=>(M6 H 1 n v).bind fun l=>if !l.2.isEmpty then none else (E4 l.1).bind fun bs=>some (.sc (.string ⟨bs.toArray⟩),none,[]) else none
 | .mkSlice t e b z l c=>(s5 fr l).bind fun l=>(s5 fr c).bind fun c=>match l,c with
   | .sc (.int _ l),.sc (.int _ c)=>if 0<=l/\l<=c/\c*b<=s9/\c<=s9/\(rep z c.toNat).all D2=true then some (.ref nx 0 l.toNat c.toNat,some (.row t e false false (pN (rep z c.toNat))),[]) else none
   |_,_=>none
 | .slcS x lo hi=>(s5 fr x).bind fun x=>(Y7 fr lo).bind fun lo=>(Y7 fr hi).bind fun hi=>match x with
   | .sc (.string t)=>(z8 hi t.size t.size).bind fun h=>(z8 lo 0 h).bind fun l=>some (.sc (.string (t.extract l h)),none,[])
   |_=>none
 | .slc e x lo hi mx=>(s5 fr x).bind fun x=>(Y7 fr lo).bind fun lo=>(Y7 fr hi).bind fun hi=>(Y7 fr mx).bind fun mx=>vp (cO e lo hi mx x)
 | .slcA _ _ _ _ _=>none
 | .fldA o x=>(s5 fr x).bind fun x=>match x with
   | .ptr i k=>some (.ptr i (k+o),none,[])
   | .dp l k=>some (.dp l (k+o),none,[])
   | .sc (.pointer (some a))=>some (.sc (.pointer (some (C6 a o))),none,[])
   |_=>none
 | .fldV _ _ _=>none
 | .idxS e x i=>(s5 fr x).bind fun x=>(s5 fr i).bind fun i=>match i with
   | .sc i=>match x with
     | .ref o k n _=>(B4 i n).bind fun i=>some (.ptr o (k+i*e),none,[])
     | .gr _ o n=>(B4 i n).bind fun i=>some (.ptr o (i*e),none,[])
     | .sl _ n l=>(B4 i n).bind fun i=>some (.dp l (i*e),none,[])
     | .slk _ n _ l=>(B4 i n).bind fun i=>some (.dp l (i*e),none,[])
     |_=>none
   |_=>none
 | .idxA n e x i=>(s5 fr x).bind fun x=>(s5 fr i).bind fun i=>match i with
   | .sc i=>match x with
     | .ptr o k=>(B4 i n).bind fun i=>some (.ptr o (k+i*e),none,[])
     | .dp l k=>(B4 i n).bind fun i=>some (.dp l (k+i*e),none,[])
     | .sc (.pointer (some a))=>(B4 i n).bind fun i=>some (.sc (.pointer (some (C6 a (i*e)))),none,[])
     |_=>none
   |_=>none
 | .idxStr x i=>(s5 fr x).bind fun x=>(s5 fr i).bind fun i=>match x,i with
   | .sc (.string t),.sc i=>(B4 i t.size).bind fun i=>(E1 t.data.toList i).bind fun b=>some (.sc (.int .u8 b.toNat),none,[])
   |_,_=>none
 | .idxV n e g x i=>(s5 fr x).bind fun x=>(s5 fr i).bind fun i=>match x,i with
   | .agg cs,.sc i=>(B4 i n).bind fun i=>match g with
     |none=>vp (E1 cs (i*e))
     |some m=>vp ((F5 (cs.drop (i*e)) m).map .agg)
   |_,_=>none
 | .ext x i=>(s5 fr x).bind fun x=>match x with
   | .tup vs=>vp (E1 vs i)
   |_=>none
 | .mkFn f a b=>(V3 fr a).bind fun a=>(V3 fr b).bind fun b=>some (.fn f a b,none,[])
 | .mkIf _ _=>none
 | .len t x=>(s5 fr x).bind fun x=>if t then (match x with| .sc (.string b)=>some (.sc (.int .i64 b.size),none,[])|_=>none)
   else (Y1 x).bind fun n=>some (.sc (.int .i64 n),none,[])
 | .mm g x y=>(s5 fr x).bind fun x=>(s5 fr y).bind fun y=>match x,y with
   | .sc (.int k a),.sc (.int _ b)=>some (.sc (.int k (if g then (if b>a then b else a) else if b<a then b else a)),none,[])
   |_,_=>none
 | .app t e b x y=>(s5 fr x).bind fun x=>(s5 fr y).bind fun y=>oI H nx t e b x y
 | .eqIf neg lit ts x y=>(s5 fr x).bind fun a=>(s5 fr y).bind fun b=>match a,b with
   | .sc a,.sc b=>(vT lit ts a b).bind fun r=>some (.sc (.bool (if neg then !r else r)),none,[])
   | .ifc _ _,.sc .nilIface=>some (.sc (.bool neg),none,[])
   |_,_=>none
 | .eqAgg neg ps x y=>(s5 fr x).bind fun a=>(s5 fr y).bind fun b=>(kO neg ps a b).map fun r=>(r,none,[])
 | .eqPtr neg x y=>(s5 fr x).bind fun a=>(s5 fr y).bind fun b=>match a,b with
   | .sc a,.sc b=>(kQ a b).bind fun r=>some (.sc (.bool (if neg then !r else r)),none,[])
   | .sc (.pointer none),.ptr _ _=>some (.sc (.bool neg),none,[])
   | .ptr _ _,.sc (.pointer none)=>some (.sc (.bool neg),none,[])
   | .ptr o k,.ptr o' k'=>if o=o'/\(j7 H o).isSome then (match j7 H o with|some (.gro _ _ _ _)=>none|_=>some (.sc (.bool (if neg then !(Nat.beq k k') else Nat.beq k k')),none,[])) else none
   |_,_=>none
 | .appMk _ _ _ _ _ _=>none
 | .s2b _ _=>none
 | .rangeS x=>(s5 fr x).bind fun v=>match v with
   | .sc (.string b)=>if Nat.ble b.size s9 then some (.ptr nx 0,some (.row (pF b 0) 0 false false []),[]) else none
   |_=>none
 | .cap _=>none
 | .toUns x=>(s5 fr x).bind fun v=>match v with
   | .sc (.pointer none)=>some (.sc (.pointer none),none,[])
   | .ptr o k=>(match j7 H o with|some (.box _ _ l)=>if Nat.blt k l.length then some (.ptr o k,none,[]) else none|_=>none)
   |_=>none
 | .fromUns t n x=>(s5 fr x).bind fun v=>match v with
   | .sc (.pointer none)=>some (.sc (.pointer none),none,[])
   | .ptr o k=>(match j7 H o with|some (.box t' _ l)=>if Nat.beq t' t && Nat.beq k 0 && Nat.ble n l.length && Nat.blt 0 n then some (.ptr o k,none,[]) else none|_=>none)
   |_=>none
 | .sdata x=>(s5 fr x).bind fun v=>match v with
   | .sc (.slice none _ _)=>some (.sc (.pointer none),none,[])
   | .ref o k _ c=>if Nat.beq c 0||Nat.beq c A5 then none else some (.ptr o k,none,[])
   | .gr _ o n=>if Nat.beq n 0 then none else some (.ptr o 0,none,[])
   |_=>none
 |_=>none
def Obj.froz:Obj->Obj
 | .row t e g _ l=> .row t e g true l
 | .gro t e _ l=> .gro t e true l
 |o=>o
def D7 (fz:List Nat):E9->E9
 | []=> []
 |(j,o)::r=>(j,if p5 j fz then o.froz else o)::D7 fz r
def n9.push (st:n9) (ob:Option Obj) (fz:List Nat):n9:=
 match ob with
 |none=>⟨D7 fz st.own,st.next,st.ro⟩
 |some o=>⟨(st.next,o)::D7 fz st.own,st.next+1,st.ro⟩
def D4 (ro:Nat) (H:E9):List Nat->Bool
 | []=>true
 |o::r=>Nat.ble ro o && (match j7 H o with|some (.row _ _ _ _ _)=>true|some (.gro _ _ _ _)=>true|_=>false) && D4 ro H r
def OU (st:n9) (n:Nat) (a v:V):Option n9:=
 (O5 v).bind fun cs=>if Nat.beq cs.length n then (match a with
  | .ptr o k=>if !Nat.ble st.ro o then none else match j7 st.own o with
    |some (.box t e l)=>if cs.all dM then (F8 l k cs).map fun l=>⟨A3 st.own o (.box t e l),st.next,st.ro⟩ else none
    |some (.row t e g z l)=>if z||p5 o (nS cs)|| !D4 st.ro st.own (nS cs) then none else (cM st.own cs).bind fun ds=>(F8 l k ds).map fun l=>⟨A3 (D7 (nS cs) st.own) o (.row t e g false l),st.next,st.ro⟩
    |some (.gro t e z l)=>if z||p5 o (nS cs)||cs.isEmpty|| !D4 st.ro st.own (nS cs) then none else (cM st.own cs).bind fun ds=>(F8 l k ds).map fun l=>⟨A3 (D7 (nS cs) st.own) o (.gro t e false l),st.next,st.ro⟩
    |none=>none
  |_=>none) else none
def wX (st:n9) (t:TypeId) (e b:Nat) (x y:V):Option (V × n9):=
 (T6 y).bind fun m=>(M6 st.own e m y).bind fun new=>if Q1 new.1 && !Nat.beq e 0 && D4 st.ro st.own new.2 then (match x with
  | .gr s o n=>match j7 st.own o with
    |some (.gro t' e' z l)=>if Nat.ble st.ro o && !z && (Nat.beq s 2|| !Nat.beq n 0) && Nat.beq t' t && Nat.beq e' e && Nat.beq l.length (n*e) && Nat.ble (n+m) s9 && Nat.ble ((n+m)*b) s9 && !p5 o new.2 then
      some (.gr 2 st.next (n+m),⟨(st.next,.gro t e false (l++new.1))::D7 new.2 (J6 o st.own),st.next+1,st.ro⟩) else none
    |_=>none
  | .ref o k n c=>match j7 st.own o with
    |some (.row t' e' g z l)=>if !Nat.ble st.ro o||z||Nat.beq m 0|| !Nat.ble (n+m) s9|| !Nat.ble ((n+m)*b) s9 then none
      else if Nat.blt c A5 then (if Nat.ble (n+m) c && !p5 o new.2 then (F8 l (k+n*e) new.1).map fun l=>(.ref o k (n+m) c,⟨A3 (D7 new.2 st.own) o (.row t' e' g false l),st.next,st.ro⟩) else none)
      else if g && Nat.beq t' t && Nat.beq e' e && Nat.beq (k+n*e) l.length && Nat.beq c (A5+n) && !p5 o new.2 then
       some (.gr 2 st.next (n+m),⟨(st.next,.gro t e false (l.drop k++new.1))::D7 new.2 (J6 o st.own),st.next+1,st.ro⟩)
      else if Nat.ble (n+m) (c - A5) && !p5 o new.2 && !(g && Nat.beq t' t && Nat.beq e' e && Nat.beq (k+n*e) l.length && Nat.beq c (A5+n)) then (F8 l (k+n*e) new.1).map fun l=>(.ref o k (n+m) c,⟨A3 (D7 new.2 st.own) o (.row t' e' g false l),st.next,st.ro⟩)
      else none
    |_=>none
  |_=>none) else none
def DU (st:n9) (e:Nat) (d x:V):Option (V × n9):=
 (Y1 d).bind fun n=>(T6 x).bind fun m=>(M6 st.own e (Nat.min m n) x).bind fun cs=>if Q1 cs.1 && cs.2.isEmpty then (match d with
  | .ref o k _ _=>match j7 st.own o with
    |some (.row t e' g z l)=>if !Nat.ble st.ro o||z then none else (F8 l k cs.1).map fun l=>(.sc (.int .i64 (Nat.min m n)),⟨A3 st.own o (.row t e' g false l),st.next,st.ro⟩)
    |_=>none
  | .gr _ o _=>match j7 st.own o with
    |some (.gro t e' z l)=>if !Nat.ble st.ro o||z||Nat.beq n 0||Nat.beq e 0|| !Nat.beq l.length (n*e) then none else (F8 l 0 cs.1).map fun l=>(.sc (.int .i64 (Nat.min m n)),⟨A3 st.own o (.gro t e' false l),st.next,st.ro⟩)
    |_=>none
  | .sc (.slice none _ _)=>some (.sc (.int .i64 (Nat.min m n)),st)
  |_=>none) else none
def EI (st:n9) (t:TypeId) (p n:V):Option (V × n9):=
 match p,n with
 | .sc (.pointer none),.sc (.int .i64 n)=>if n=0 then some (.sc (.string .empty),st) else none
 | .ptr o k,.sc (.int .i64 n)=>if 0<n/\n<=s9/\Nat.ble st.ro o=true then (match j7 st.own o with
   |some (.gro t' _ z l)=>if Nat.beq t' t && !z then (F5 (l.drop k) n.toNat).bind fun cs=>(E4 cs).map fun bs=>(.sc (.string ⟨bs.toArray⟩),⟨J6 o st.own,st.next,st.ro⟩) else none
   |some (.row t' _ _ z l)=>if Nat.beq t' t && !z then (F5 (l.drop k) n.toNat).bind fun cs=>(E4 cs).map fun bs=>(.sc (.string ⟨bs.toArray⟩),⟨J6 o st.own,st.next,st.ro⟩) else none
   |_=>none) else none
 |_,_=>none
def TB:List D->Option (List Int)
 | []=>some []
 | .sc (.int .i64 z)::r=>(TB r).map (z::·)
 |_=>none
def cN7:Nat->Nat->List Int->Nat->V
 |0,_,_,_=> .tup []
 |_+1,o,zs,c=> .ref o 0 (cpt zs).length c
def cX3 (st:n9) (k:Nat):V->Option (V × n9)
 | .gr s o n=>if Nat.beq n 0 then some (if Nat.beq k 0 then .tup [] else .gr s o n,st) else match j7 st.own o with
   |some (.gro t e z l)=>if Nat.ble st.ro o && !z && Nat.beq l.length n && Nat.ble n s9 then (TB l).map fun zs=>(cN7 k o zs (A5+n),⟨A3 st.own o (.gro t e false ((lF k zs).map fun x=> .sc (.int .i64 x))),st.next,st.ro⟩) else none
   |_=>none
 | .sc (.slice none n c)=>if Nat.beq n 0 then some (if Nat.beq k 0 then .tup [] else .sc (.slice none n c),st) else none
 |_=>none
def oL (st:n9):V->Option (V × n9)
 | .ptr o k=>if Nat.beq k 0 then (match j7 st.own o with
   |some (.row t e g z l)=>if Nat.ble st.ro o && !z && Nat.beq e 0 && !g then (if Nat.ble (O9 t).1.size s9 then (if Nat.blt (O9 t).2 (O9 t).1.size then
     some (.tup [.sc (.bool true),.sc (.int .i64 (O9 t).2),.sc (.int .i32 (Utf8.decode (O9 t).1 (O9 t).2).1)],⟨A3 st.own o (.row (pF (O9 t).1 ((O9 t).2+(Utf8.decode (O9 t).1 (O9 t).2).2)) 0 false false []),st.next,st.ro⟩)
     else some (.tup [.sc (.bool false)],st)) else none) else none
   |_=>none) else none
 |_=>none
def R8 (fr:D0) (st:n9):M8->Option (V × n9)
 | .store n a v=>(s5 fr a).bind fun a=>(s5 fr v).bind fun v=>(OU st n a v).map fun st=>(.tup [],st)
 | .app t e b x y=>(s5 fr x).bind fun x=>(s5 fr y).bind fun y=>wX st t e b x y
 | .copy e d x=>(s5 fr d).bind fun d=>(s5 fr x).bind fun x=>DU st e d x
 | .ustr t p n=>(s5 fr p).bind fun p=>(s5 fr n).bind fun n=>EI st t p n
 | .lib k x=>(s5 fr x).bind fun x=>cX3 st k x
 | .nextS x=>(s5 fr x).bind fun x=>oL st x
 |_=>none
def XS (old:Nat->Nat->Option Value) (fr:D0) (st:n9) (o:M8):Option (V × n9):=
 match j6 old fr st.own st.next o with
 |some (v,ob,fz)=>if D4 st.ro st.own fz then some (v,st.push ob fz) else none
 |none=>R8 fr st o
theorem bV {s n:Nat} {l:List D}:EQ (.sl s n l)=true↔s ≠ 1\/n ≠ 0:=by
 have hb:∀ i j:Nat,Nat.beq i j=false↔i ≠ j:=fun i j=>by
  rw[<- cB6,j9]
 simp only[EQ,cW5,cL0,hb]
structure HR (E:G3) (H:E9) (heap:o7) (w:VW):Prop where
 ld:w.ld=p9 E heap
 obj:∀ o ob,j7 H o=some ob->ob.none=false->∃ b blk,w.μ o=some b/\i7 heap b=some blk/\kB w ob blk
 ex:∀ b,w.F b->∃ blk,i7 heap b=some blk
section
variable {E:G3} {H:E9} {heap:o7} {w w':VW} {fr:D0} {frI:Fr}
theorem fD (a:Addr) (i j:Nat):C6 (C6 a i) j=C6 a (i+j):=by simp[C6,dK2]
theorem A6.get:∀ {l:List D} {a:Addr},A6 w l a->∀ (i:Nat) d,l[i]? =some d->∃ v,w.ld (C6 a i)=some v/\A1 w d v
 | [],a,_,i,d,e=>by simp at e
 |x::r,a,h,i,d,e=>by
  simp only[A6] at h
  cases i with
  |zero=>simp at e;subst e;exact h.1
  |succ i=>
   simp at e
   have:=A6.get h.2 i d e
   rw[fD,Nat.add_comm 1 i] at this
   exact this
theorem A6.of:∀ {l:List D} {a:Addr},(∀ (i:Nat) d,l[i]? =some d->∃ v,w.ld (C6 a i)=some v/\A1 w d v)->A6 w l a
 | [],a,_=>by simp only[A6]
 |x::r,a,h=>by
  simp only[A6]
  refine ⟨h 0 x rfl,A6.of fun i d e=>?_⟩
  have:=h (i+1) d (by simpa using e)
  rw[fD,Nat.add_comm 1 i]
  exact this
theorem A6.part {l:List D} {a:Addr} (h:A6 w l a) (i n:Nat):A6 w ((l.drop i).take n) (C6 a i):=A6.of fun j d e=>by
 rw[dC5] at e
 split at e
 ·rw[cZ8] at e
  rw[fD]
  exact h.get (i+j) d e
 ·cases e
theorem m6.length:∀ {l:List D} {vs:List Value},m6 w l vs->vs.length=l.length
 | [],vs,h=>by simp only[m6] at h;simp[h]
 |d::r,vs,h=>by
  simp only[m6] at h
  obtain ⟨v,vs',rfl,h1,h2⟩:=h
  simp[h2.length]
theorem m6.get:∀ {l:List D} {vs:List Value},m6 w l vs->∀ (i:Nat) d,l[i]? =some d->∃ v,vs[i]? =some v/\A1 w d v
 | [],vs,_,i,d,e=>by simp at e
 |x::r,vs,h,i,d,e=>by
  simp only[m6] at h
  obtain ⟨v,vs',rfl,h1,h2⟩:=h
  cases i with
  |zero=>simp at e;subst e;exact ⟨v,rfl,h1⟩
  |succ i=>simp at e;obtain ⟨u,a,b⟩:=h2.get i d e;exact ⟨u,by simpa using a,b⟩
theorem m6.of:∀ {l:List D} {vs:List Value},vs.length=l.length->(∀ (i:Nat) d v,l[i]? =some d->vs[i]? =some v->A1 w d v)->m6 w l vs
 | [],vs,hl,_=>by simp only[m6];exact bA8 hl
 |x::r,[],hl,_=>by simp at hl
 |x::r,v::vs,hl,h=>by
  simp only[m6]
  exact ⟨v,vs,rfl,h 0 x v rfl rfl,m6.of (by simpa using hl) fun i d u e1 e2=>h (i+1) d u (by simpa using e1) (by simpa using e2)⟩
theorem m6.append {l m:List D} {vs us:List Value} (h:m6 w l vs) (k:m6 w m us):m6 w (l++m) (vs++us):=by
 refine m6.of (by simp[h.length,k.length]) fun i d v e1 e2=>?_
 have hl:=h.length
 by_cases hi:i<l.length
 ·rw[dJ9 hi] at e1
  rw[dJ9 (by omega)] at e2
  obtain ⟨v',a,b⟩:=h.get i d e1
  rw[e2] at a;cases a;exact b
 ·rw[dL0 (by omega)] at e1
  rw[dL0 (by omega)] at e2
  rw[hl] at e2
  obtain ⟨v',a,b⟩:=k.get _ d e1
  rw[e2] at a;cases a;exact b
theorem m6.part {l:List D} {vs:List Value} (h:m6 w l vs) (i n:Nat):m6 w ((l.drop i).take n) ((vs.drop i).take n):=by
 have hl:=h.length
 refine m6.of (by simp[hl]) fun j d v e1 e2=>?_
 rw[dC5] at e1 e2
 split at e1
 ·rename_i hj
  rw[aO9 hj] at e2
  rw[cZ8] at e1 e2
  obtain ⟨v',a,b⟩:=h.get _ d e1
  rw[e2] at a;cases a;exact b
 ·cases e1
theorem m6.drop {l:List D} {vs:List Value} (h:m6 w l vs) (i:Nat):m6 w (l.drop i) (vs.drop i):=by
 have hl:=h.length
 refine m6.of (by simp[hl]) fun j d v e1 e2=>?_
 rw[cZ8] at e1 e2
 obtain ⟨v',a,b⟩:=h.get _ d e1
 rw[e2] at a;cases a;exact b
theorem m6.take {l:List D} {vs:List Value} (h:m6 w l vs) (n:Nat):m6 w (l.take n) (vs.take n):=h.part 0 n
theorem i6.length:∀ {l:List V} {vs:List Value},i6 w l vs->vs.length=l.length
 | [],vs,h=>by simp only[i6] at h;simp[h]
 |d::r,vs,h=>by
  simp only[i6] at h
  obtain ⟨v,vs',rfl,h1,h2⟩:=h
  simp[h2.length]
theorem i6.get:∀ {l:List V} {vs:List Value},i6 w l vs->∀ (i:Nat) d,l[i]? =some d->∃ v,vs[i]? =some v/\f9 w d v
 | [],vs,_,i,d,e=>by simp at e
 |x::r,vs,h,i,d,e=>by
  simp only[i6] at h
  obtain ⟨v,vs',rfl,h1,h2⟩:=h
  cases i with
  |zero=>simp at e;subst e;exact ⟨v,rfl,h1⟩
  |succ i=>simp at e;obtain ⟨u,a,b⟩:=h2.get i d e;exact ⟨u,by simpa using a,b⟩
theorem i6.of:∀ {l:List V} {vs:List Value},vs.length=l.length->(∀ (i:Nat) d v,l[i]? =some d->vs[i]? =some v->f9 w d v)->i6 w l vs
 | [],vs,hl,_=>by simp only[i6];exact bA8 hl
 |x::r,[],hl,_=>by simp at hl
 |x::r,v::vs,hl,h=>by
  simp only[i6]
  exact ⟨v,vs,rfl,h 0 x v rfl rfl,i6.of (by simpa using hl) fun i d u e1 e2=>h (i+1) d u (by simpa using e1) (by simpa using e2)⟩
theorem i6.part {l:List V} {vs:List Value} (h:i6 w l vs) (i n:Nat):i6 w ((l.drop i).take n) ((vs.drop i).take n):=by
 have hl:=h.length
 refine i6.of (by simp[hl]) fun j d v e1 e2=>?_
 rw[dC5] at e1 e2
 split at e1
 ·rename_i hj
  rw[aO9 hj] at e2
  rw[cZ8] at e1 e2
  obtain ⟨v',a,b⟩:=h.get _ d e1
  rw[e2] at a;cases a;exact b
 ·cases e1
theorem i6.sc:∀ (z:List Value),z.all D2=true->i6 w (scL z) z
 | [],_=>by simp[scL,i6]
 |v::r,h=>by
  simp only[dD3,aO3] at h
  simp only[scL,cJ1,i6,f9]
  exact ⟨v,r,rfl,⟨rfl,h.1⟩,i6.sc r h.2⟩
theorem m6.sc:∀ (z:List Value),z.all D2=true->m6 w (pN z) z
 | [],_=>by simp[pN,m6]
 |v::r,h=>by
  simp only[dD3,aO3] at h
  simp only[pN,cJ1,m6,A1]
  exact ⟨v,r,rfl,⟨rfl,h.1⟩,m6.sc r h.2⟩
theorem tG {d:D} {v:Value} (h:A1 w d v):f9 w (dv d) v:=by
 cases d with
 |sc x=>simp only[A1] at h;simp only[dv,f9];exact h
 |sl s n l=>simp only[dv,f9];exact h
theorem xP:∀ {l:List D} {vs:List Value},m6 w l vs->i6 w (sM l) vs
 | [],vs,h=>by simp only[m6] at h;simp only[sM,i6];exact h
 |d::r,vs,h=>by
  simp only[m6] at h
  obtain ⟨v,vs',rfl,h1,h2⟩:=h
  simp only[sM,i6]
  exact ⟨v,vs',rfl,tG h1,xP h2⟩
theorem f9.one {v:V} {vI:Value} (h:f9 w v vI) (ho:dM v=true):E0 vI=true:=by
 cases v with
 |sc x=>simp only[f9] at h;rw[h.1];exact rW _ h.2
 |sl s n l=>
  simp only[f9,A1] at h
  rcases h with ⟨a,c,rfl,_⟩|⟨_,_,_,rfl|⟨_,k,b,e,rfl⟩⟩<;>rfl
 |slk s n c l=>
  simp only[f9] at h
  rcases h with ⟨_,_,⟨a,rfl,_⟩|⟨_,_,_,_,rfl⟩⟩<;>rfl
 |dp l o=>simp only[f9] at h;obtain ⟨a,rfl,_⟩:=h;rfl
 |ref o k n c=>simp only[f9] at h;obtain ⟨_,_,b,rfl,_⟩:=h;rfl
 |gr s o n=>
  simp only[f9] at h
  rcases h with ⟨_,⟨_,rfl|⟨_,a,c,rfl,_⟩⟩|⟨_,b,rfl,_⟩⟩<;>rfl
 |ptr o k=>simp only[f9] at h;obtain ⟨_,b,rfl,_⟩:=h;rfl
 |agg l=>simp[dM] at ho
 |tup l=>simp[dM] at ho
 |fn f a b=>simp only[f9] at h;obtain ⟨_,_,rfl,_⟩:=h;rfl
 |ifc t v=>simp only[f9] at h;obtain ⟨_,rfl,_⟩:=h;rfl
 |dead=>simp[dM] at ho
 |tok o=>simp[dM] at ho
theorem i6.one {l:List V} {vs:List Value} (h:i6 w l vs) (ho:l.all dM=true):vs.all E0=true:=by
 rw[bB3] at ho ⊢
 intro v hv
 obtain ⟨i,hi,e⟩:=dL4 hv
 have hl:=h.length
 have h6:i<l.length:=by omega
 obtain ⟨v',a,b⟩:=h.get i (l[i]) (by simp[h6])
 rw[cJ3 hi,e] at a
 cases a
 exact b.one (ho _ (cN3 _))
theorem A1.one {d:D} {v:Value} (h:A1 w d v):E0 v=true:=(tG h).one (by cases d<;>rfl)
theorem m6.one {l:List D} {vs:List Value} (h:m6 w l vs):vs.all E0=true:=by
 rw[bB3]
 intro v hv
 obtain ⟨i,hi,e⟩:=dL4 hv
 have hl:=h.length
 have h6:i<l.length:=by omega
 obtain ⟨v',a,b⟩:=h.get i (l[i]) (by simp[h6])
 rw[cJ3 hi,e] at a
 cases a
 exact b.one
theorem jL {v:V} {vI:Value} {cs:List V} (h:f9 w v vI) (hc:O5 v=some cs):i6 w cs vI.cells.toList/\cs.all dM=true:=by
 have key:dM v=true->cs= [v]->i6 w cs vI.cells.toList/\cs.all dM=true:=fun ho e=>by
  subst e
  rw[GE (h.one ho)]
  simp only[i6,dD3,ho,List.all_nil,dJ7,and_true]
  exact ⟨vI,[],rfl,h,rfl⟩
 cases v with
 |agg l=>
  simp only[O5] at hc
  split at hc
  ·rename_i hl
   cases hc
   simp only[f9] at h
   obtain ⟨vs,rfl,h⟩:=h
   exact ⟨h,hl⟩
  ·cases hc
 |tup l=>simp[O5] at hc
 |dead=>simp[O5] at hc
 |tok o=>simp[O5] at hc
 |_=>simp only[O5,aJ7] at hc;exact key rfl hc.symm
theorem TT {b:Nat}:∀ (n o:Nat) (f:Nat->Value),(∀ i,i<n->E.old b (o+i)=some (f i))->uC E b o n=some ((List.range n).map f)
 |0,o,f,h=>by simp[uC]
 |n+1,o,f,h=>by
  simp only[uC]
  rw[show E.old b o=some (f 0) from h 0 (by omega)]
  simp only[aI2]
  rw[TT n (o+1) (fun i=>f (i+1)) (fun i hi=>by have:=h (i+1) (by omega);rw[show o+1+i=o+(i+1) by omega];exact this)]
  simp[List.range_succ_eq_map,List.map_map]
theorem bP4 {α:Type} (cs:List α) (n:Nat) (f:Nat->α) (hn:n<=cs.length) (h:∀ i,i<n->cs[i]? =some (f i)):cs.take n=(List.range n).map f:=by
 refine List.ext_getElem? fun i=>?_
 rw[dC5]
 by_cases hi:i<n
 ·rw[aO9 hi,h i hi];simp[hi]
 ·rw[aQ4 hi];simp[hi]
theorem mJ (hr:HR E H heap w) {a:Addr} {l:List D} (hi:w.inF a) (h:A6 w l a) (n:Nat) (hn:n<=l.length):∃ vs,I9 E heap a n=some vs/\m6 w (l.take n) vs:=by
 have hg:∀ i,i<n->∃ v,p9 E heap (C6 a i)=some v/\∀ d,l[i]? =some d->A1 w d v:=fun i h4=>by
  obtain ⟨v,e1,e2⟩:=h.get i (l[i]'(by omega)) (by simp)
  rw[hr.ld] at e1
  exact ⟨v,e1,fun d hd=>by rw[cJ3 (by omega)] at hd;cases hd;exact e2⟩
 let f:Nat->Value:=fun i=>if h4:i<n then (hg i h4).choose else .nilIface
 have hf:∀ i (h4:i<n),p9 E heap (C6 a i)=some (f i)/\∀ d,l[i]? =some d->A1 w d (f i):=fun i h4=>by
  have:=(hg i h4).choose_spec
  simp only[f,dif_pos h4]
  exact this
 refine ⟨(List.range n).map f,?_,m6.of (by simp[hn]) fun i d v e1 e2=>?_⟩
 ·obtain ⟨b,o,_|k⟩:=a
  ·simp only[I9]
   exact TT n o f fun i h4=>(hf i h4).1
  ·obtain ⟨blk,hb⟩:=hr.ex b hi
   obtain rfl|⟨q,rfl⟩:k=0\/∃ q,k=q+1:=by
    cases k with
    |zero=>exact .inl rfl
    |succ q=>exact .inr ⟨q,rfl⟩
   case inr=>
    rcases dI6 n with h0|h0
    ·subst h0;rfl
    ·have:=(hf 0 h0).1
     simp[p9,C6] at this
   simp only[I9,hb,aI2]
   have h8:o+n<=blk.cells.length\/n=0:=by
    rcases dI6 n with h0|h0
    ·exact .inr h0
    ·left
     have:=(hf (n - 1) (by omega)).1
     simp only[p9,C6,hb,aI2,y7] at this
     have hw:o+(n - 1)<blk.cells.length:=by
      rcases cL3 (o+(n - 1)) blk.cells.length with h'|h'
      ·exact h'
      ·rw[cZ1 h'] at this;cases this
     omega
   rcases h8 with h8|rfl
   ·rw[Y2 _ _ (by simp;omega)]
    congr 1
    refine bP4 _ _ _ (by simp;omega) fun i h4=>?_
    have:=(hf i h4).1
    simp only[p9,C6,hb,aI2,y7] at this
    rw[cZ8]
    exact this
   ·cases List.drop o blk.cells<;>rfl
 ·rw[dC5] at e1
  split at e1
  ·rename_i h4
   simp only[dK9,List.getElem?_range h4,aX8,aJ7] at e2
   subst e2
   exact (hf i h4).2 d e1
  ·cases e1
theorem hZ {b k n:Nat} {blk:A0} (hb:i7 heap b=some blk) (hn:k+n<=blk.cells.length):I9 E heap ⟨b,k,some 0⟩ n=some ((blk.cells.drop k).take n):=by
 simp only[I9,hb,aI2]
 exact Y2 _ _ (by simp;omega)
theorem fE {b k:Nat} {blk:A0} (hb:i7 heap b=some blk):p9 E heap ⟨b,k,some 0⟩=blk.cells[k]? :=by
 simp only[p9,hb,aI2,y7]
def LdX (heap:o7) (w w':VW) (fz:List Nat):Prop:=∀ o ∈ fz,∀ b,w.μ o=some b->∀ (k sp:Nat) (blk:A0),i7 heap b=some blk->w'.ld ⟨b,k,some 0⟩=blk.cells[k]?
theorem A6.ofL {b:Nat} {blk:A0} {l:List D} (hr:∀ k:Nat,w.ld ⟨b,k,some 0⟩=blk.cells[k]?) (h:m6 w l blk.cells) (k:Nat):A6 w (l.drop k) ⟨b,k,some 0⟩:=A6.of fun i d e=>by
 rw[cZ8] at e
 obtain ⟨v,e1,e2⟩:=h.get _ d e
 refine ⟨v,?_,e2⟩
 show w.ld ⟨b,k+i,some 0⟩=some v
 rw[hr];exact e1
theorem o8 (hf:FR w fr frI) {x:Operand} {v:V} (h:s5 fr x=some v):∃ vI,ev frI x=some vI/\f9 w v vI:=by
 cases x with
 |tmp t=>exact hf t v h
 |const c=>
  simp only[s5] at h
  split at h
  ·rename_i hc;cases h;exact ⟨c,rfl,by simp only[f9];exact ⟨by trivial,hc⟩⟩
  ·cases h
 |global g=>simp only[s5,aJ7] at h;subst h;exact ⟨_,rfl,by simp only[f9];exact ⟨by trivial,rfl⟩⟩
 |func f=>simp only[s5,aJ7] at h;subst h;exact ⟨_,rfl,by simp only[f9];exact ⟨by trivial,rfl⟩⟩
theorem aZ (hf:FR w fr frI):∀ {xs:List Operand} {vs:List V},V3 fr xs=some vs->∃ vI,evs frI xs=some vI/\i6 w vs vI
 | [],vs,h=>by simp only[V3,aJ7] at h;subst h;exact ⟨[],rfl,by simp only[i6]⟩
 |x::r,vs,h=>by
  simp only[V3,aG3,aJ7] at h
  obtain ⟨v,h1,vs',h2,rfl⟩:=h
  obtain ⟨u,a1,a2⟩:=o8 hf h1
  obtain ⟨us,b1,b2⟩:=aZ hf h2
  exact ⟨u::us,by simp[evs,a1,b1],by simp only[i6];exact ⟨u,us,rfl,a2,b2⟩⟩
theorem jM (hf:FR w fr frI) {x:Option Operand} {v:Option Value} (h:Y7 fr x=some v):evO frI x=some v:=by
 cases x with
 |none=>simp only[Y7,aJ7] at h;subst h;rfl
 |some x=>
  simp only[Y7,aG3] at h
  obtain ⟨u,h1,h2⟩:=h
  obtain ⟨uI,a1,a2⟩:=o8 hf h1
  split at h2
  ·cases h2
   simp only[f9] at a2
   simp[evO,a1,a2.1]
  ·cases h2
def kD (w:VW):List (Nat × Nat × V)->List (Nat × Nat × Value)->Prop
 | [],q=>q= []
 |(o,n,v)::r,q=>∃ vI q',q=(o,n,vI)::q'/\f9 w v vI/\kD w r q'
theorem mB (hf:FR w fr frI):∀ {xs:List (Nat × Nat × Operand)} {vs:List (Nat × Nat × V)},N6 fr xs=some vs->∃ vI,eF frI xs=some vI/\kD w vs vI
 | [],vs,h=>by simp only[N6,aJ7] at h;subst h;exact ⟨[],rfl,rfl⟩
 |(o,n,x)::r,vs,h=>by
  simp only[N6,aG3,aJ7] at h
  obtain ⟨v,h1,vs',h2,rfl⟩:=h
  obtain ⟨u,a1,a2⟩:=o8 hf h1
  obtain ⟨us,b1,b2⟩:=mB hf h2
  exact ⟨(o,n,u)::us,by simp[eF,a1,b1],u,us,rfl,a2,b2⟩
theorem nE:∀ {l:List V} {k:Nat} {cs r:List V} {ls vs:List Value},F8 l k cs=some r->i6 w l ls->i6 w cs vs->∃ rs,S6 ls k vs=some rs/\i6 w r rs
 |l,k,[],r,ls,vs,h,hl,hc=>by
  simp only[i6] at hc
  subst hc
  have:r=l:=by cases l<;>cases k<;>simp[F8] at h<;>first|exact h|exact h.symm
  subst this
  exact ⟨ls,by cases ls<;>cases k<;>rfl,hl⟩
 | [],k,c::cs,r,ls,vs,h,hl,hc=>by cases k<;>simp[F8] at h
 |x::l,0,c::cs,r,ls,vs,h,hl,hc=>by
  simp only[F8,aG4] at h
  obtain ⟨r',h1,rfl⟩:=h
  simp only[i6] at hl hc
  obtain ⟨v,ls',rfl,a1,a2⟩:=hl
  obtain ⟨u,vs',rfl,b1,b2⟩:=hc
  obtain ⟨rs,c1,c2⟩:=nE h1 a2 b2
  exact ⟨u::rs,by simp[S6,c1],by simp only[i6];exact ⟨u,rs,rfl,b1,c2⟩⟩
 |x::l,k+1,c::cs,r,ls,vs,h,hl,hc=>by
  simp only[F8,aG4] at h
  obtain ⟨r',h1,rfl⟩:=h
  simp only[i6] at hl
  obtain ⟨v,ls',rfl,a1,a2⟩:=hl
  obtain ⟨rs,c1,c2⟩:=nE h1 a2 hc
  obtain ⟨u,vs',rfl,b1,b2⟩:=(by simpa only[i6] using hc:∃ v vs',vs=v::vs'/\f9 w c v/\i6 w cs vs')
  exact ⟨v::rs,by simp[S6,c1],by simp only[i6];exact ⟨v,rs,rfl,a1,c2⟩⟩
theorem Q4:∀ {l:List D} {k:Nat} {cs r:List D} {ls vs:List Value},F8 l k cs=some r->m6 w l ls->m6 w cs vs->∃ rs,S6 ls k vs=some rs/\m6 w r rs
 |l,k,[],r,ls,vs,h,hl,hc=>by
  simp only[m6] at hc
  subst hc
  have:r=l:=by cases l<;>cases k<;>simp[F8] at h<;>first|exact h|exact h.symm
  subst this
  exact ⟨ls,by cases ls<;>cases k<;>rfl,hl⟩
 | [],k,c::cs,r,ls,vs,h,hl,hc=>by cases k<;>simp[F8] at h
 |x::l,0,c::cs,r,ls,vs,h,hl,hc=>by
  simp only[F8,aG4] at h
  obtain ⟨r',h1,rfl⟩:=h
  simp only[m6] at hl hc
  obtain ⟨v,ls',rfl,a1,a2⟩:=hl
  obtain ⟨u,vs',rfl,b1,b2⟩:=hc
  obtain ⟨rs,c1,c2⟩:=Q4 h1 a2 b2
  exact ⟨u::rs,by simp[S6,c1],by simp only[m6];exact ⟨u,rs,rfl,b1,c2⟩⟩
 |x::l,k+1,c::cs,r,ls,vs,h,hl,hc=>by
  simp only[F8,aG4] at h
  obtain ⟨r',h1,rfl⟩:=h
  simp only[m6] at hl
  obtain ⟨v,ls',rfl,a1,a2⟩:=hl
  obtain ⟨rs,c1,c2⟩:=Q4 h1 a2 hc
  obtain ⟨u,vs',rfl,b1,b2⟩:=(by simpa only[m6] using hc:∃ v vs',vs=v::vs'/\A1 w c v/\m6 w cs vs')
  exact ⟨v::rs,by simp[S6,c1],by simp only[m6];exact ⟨v,rs,rfl,a1,c2⟩⟩
theorem DX:∀ {ps:List (Nat × Nat × V)} {qs:List (Nat × Nat × Value)} {l r:List V} {ls:List Value},bS l ps=some r->i6 w l ls->kD w ps qs->∃ rs,nX ls qs=some rs/\i6 w r rs
 | [],qs,l,r,ls,h,hl,hp=>by
  simp only[kD] at hp;subst hp
  simp only[bS,aJ7] at h;subst h
  exact ⟨ls,rfl,hl⟩
 |(o,n,v)::ps,qs,l,r,ls,h,hl,hp=>by
  simp only[kD] at hp
  obtain ⟨vI,q',rfl,h1,h2⟩:=hp
  simp only[bS,aG3] at h
  obtain ⟨cs,hc,h⟩:=h
  split at h
  case isFalse=>cases h
  rename_i h7
  simp only[aO3] at h7
  simp only[aG3] at h
  obtain ⟨l',ha,h⟩:=h
  obtain ⟨c1,c2⟩:=jL h1 hc
  obtain ⟨rs,d1,d2⟩:=nE ha hl c1
  obtain ⟨rs',e1,e2⟩:=DX h d2 h2
  refine ⟨rs',?_,e2⟩
  simp only[nX]
  rw[c1.length,hl.length,aO9 (by rw[h7.1,h7.2];rfl),d1]
  exact e1
def Fin (w w':VW) (fz:List Nat):Prop:=∀ o ∈ fz,∀ b,w.μ o=some b->w'.F b
theorem aB9 (hr:HR E H heap w) (h5:VW.le w w') {v:V} {vI:Value} {d:D} (h:f9 w v vI) (ht:dS H v=some d) (hf:Fin w w' (xR v)) (h9:LdX heap w w' (xR v)):A1 w' d vI/\EQ d=true:=by
 cases v with
 |sc x=>
  simp only[dS,aJ7] at ht;subst ht
  simp only[f9] at h
  exact ⟨by simp only[A1];exact h,rfl⟩
 |sl s n l=>
  simp only[dS] at ht
  split at ht
  ·rename_i ho;cases ht;simp only[f9] at h;exact ⟨h.mono h5,ho⟩
  ·cases ht
 |slk s n c l=>
  simp only[dS] at ht
  split at ht
  ·rename_i hs
   have hh:s=0\/s=3:=by
    rw[cW5,j9,j9] at hs;exact hs
   cases ht
   simp only[f9] at h
   obtain ⟨h1,h2,h3⟩:=h
   refine ⟨?_,by rcases hh with rfl|rfl<;>rfl⟩
   simp only[A1]
   rcases h3 with ⟨a,rfl,i,r⟩|⟨k1,k2,k3,k4,rfl⟩
   ·left
    refine ⟨a,c,rfl,h5.inF i,?_,r.mono h5 i,fun e=>by omega⟩
    unfold I4;rw[H0,aO9 h1];exact h2
   ·subst k2 k4;exact .inr ⟨k1,rfl,rfl,.inl rfl⟩
  ·cases ht
 |ref o k n c=>
  simp only[dS] at ht
  split at ht
  case h_2=>cases ht
  rename_i t e g z l ho
  split at ht
  case isFalse=>cases ht
  rename_i hx
  cases ht
  simp only[f9] at h
  obtain ⟨h1,h2,b',rfl,h3⟩:=h
  obtain ⟨b,blk,m1,m2,m3⟩:=hr.obj o _ ho rfl
  have:=h3 b m1
  subst this
  have hF:w'.F b':=hf o (by simp[xR]) b' m1
  refine ⟨?_,bV.2 (.inl (by omega))⟩
  simp only[A1]
  left
  refine ⟨_,c,rfl,hF,h2,?_,fun e=>by cases e⟩
  have r:=(m3.2.2.2).mono h5
  have:=(A6.ofL (fun k=>h9 o (by simp[xR]) b' m1 k 0 blk m2) r k).part 0 (n*e)
  simpa [C6] using this
 |gr s o n=>
  simp only[dS] at ht
  split at ht
  case h_2=>cases ht
  rename_i t e z l ho
  split at ht
  case isFalse=>cases ht
  rename_i hc
  obtain ⟨hl,hk,hm,he⟩:=hc
  cases ht
  simp only[f9] at h
  obtain ⟨h1,h2⟩:=h
  refine ⟨?_,bV.2 (.inl hm)⟩
  simp only[A1]
  rcases h2 with ⟨rfl,rfl|⟨hq,a,c,rfl,i⟩⟩|⟨hn,b',rfl,h3⟩
  ·right
   refine ⟨hk,rfl,?_,.inl rfl⟩
   rw[Nat.zero_mul] at hl
   exact bA8 hl
  ·left
   rw[Nat.zero_mul] at hl
   have:=bA8 hl
   subst this
   exact ⟨a,c,rfl,h5.inF i,by unfold I4;exact bA5 _,by simp only[A6],fun e=>absurd e hq⟩
  ·left
   have hu:(Obj.gro t e z l).none=false:=by
    cases l with
    |nil=>
     exfalso
     rw[dA2] at hl
     rcases Nat.mul_eq_zero.1 hl.symm with hl|hl
     ·exact hn hl
     ·exact he hl
    |cons=>rfl
   obtain ⟨b,blk,m1,m2,m3⟩:=hr.obj o _ ho hu
   have:=h3 b m1
   subst this
   have hF:w'.F b':=hf o (by simp[xR]) b' m1
   refine ⟨_,_,rfl,hF,?_,?_,fun _=>hn⟩
   ·unfold I4;rw[H0,aQ4 (by omega)];omega
   ·have r:=(m3.2.2.2).mono h5
    simpa using A6.ofL (fun k=>h9 o (by simp[xR]) b' m1 k 0 blk m2) r 0
 |_=>simp[dS] at ht
end
def kC (heap:o7) (w:VW) (n:Nat) (v:V) (ob:Option Obj) (fz:List Nat) (vI:Value) (bs:List A0):Prop:=
 match ob with
 |none=>bs= []/\fz= []/\f9 w v vI
 |some o=>o.none=false/\o.fz=false/\o.ok=true/\∃ blk,bs= [blk]/\∀ w',VW.le w w'->Fin w w' fz->LdX heap w w' fz->w.nx<w'.nx->w'.μ w.nx=some n->f9 w' v vI/\kB w' o blk
section
variable {E:G3} {H:E9} {heap:o7} {w:VW} {fr:D0} {frI:Fr} {n p:Nat} {v:V} {ob:Option Obj} {fz:List Nat}
theorem bY7 {op:BinOp} {a b r:Value} (h:K8 op a b=some r):D2 r=true:=by
 unfold K8 at h
 split at h
 ·split at h
  ·split at h
   ·cases h
   ·cases h;rfl
  ·split at h
   ·cases h
   ·cases h;rfl
  ·split at h
   case isFalse=>cases h
   split at h<;>first|(cases h;rfl)|(split at h;cases h;first|(cases h;rfl)|skip)|cases h
   all_goals (cases h;rfl)
 ·split at h<;>first|(cases h;rfl)|(split at h;cases h;rfl;cases h)|cases h
 ·cases h
theorem cX2 {op:UnOp} {a r:Value} (h:unA op a=some r):D2 r=true:=by
 unfold unA at h
 split at h<;>first|(cases h;rfl)|cases h
theorem f9.scv {x v:Value} (h:f9 w (.sc x) v):v=x:=by simp only[f9] at h;exact h.1
theorem f9.mksc {x:Value} (h:D2 x=true):f9 w (.sc x) x:=by simp only[f9];exact ⟨by trivial,h⟩
theorem f9.ok {x v:Value} (h:f9 w (.sc x) v):D2 x=true:=by simp only[f9] at h;exact h.2
theorem kC.pure {vI:Value} (h:f9 w v vI):kC heap w n v none [] vI []:=⟨rfl,rfl,h⟩
theorem T0 {x:Option V} (h:vp x=some (v,ob,fz)):x=some v/\ob=none/\fz= []:=by
 cases x with
 |none=>cases h
 |some y=>cases h;exact ⟨rfl,rfl,rfl⟩
abbrev M3 (E:G3) (heap:o7) (w:VW) (frI:Fr) (n p:Nat) (op:M8) (v:V) (ob:Option Obj) (fz:List Nat):Prop:=
 ∃ vI bs,d9 E frI ⟨heap,n,p⟩ op=some (vI,bs)/\kC heap w n v ob fz vI bs
abbrev N7 (E:G3) (H:E9) (w:VW) (fr:D0) (op:M8) (v:V) (ob:Option Obj) (fz:List Nat):Prop:=j6 E.old fr H w.nx op=some (v,ob,fz)
theorem cY2 (hf:FR w fr frI) {x:Operand} (h:N7 E H w fr (.mov x) v ob fz):M3 E heap w frI n p (.mov x) v ob fz:=by
 simp only[N7,j6] at h
 obtain ⟨h0,rfl,rfl⟩:=T0 h;replace h:=h0
 obtain ⟨vI,a,b⟩:=o8 hf h
 exact ⟨vI,[],by simp[d9,a],.pure b⟩
theorem cH9 (hf:FR w fr frI) {c x y:Operand} (h:N7 E H w fr (.pick c x y) v ob fz):M3 E heap w frI n p (.pick c x y) v ob fz:=by
 simp only[N7,j6,aG3] at h
 obtain ⟨u,h1,h⟩:=h
 split at h
 case h_2=>cases h
 rename_i t
 obtain ⟨h0,rfl,rfl⟩:=T0 h;replace h:=h0
 obtain ⟨uI,a1,a2⟩:=o8 hf h1
 obtain ⟨vI,b1,b2⟩:=o8 hf h
 have:=a2.scv
 subst this
 exact ⟨vI,[],by simp[d9,a1,b1],.pure b2⟩
theorem cX6 (hf:FR w fr frI) {op:BinOp} {x y:Operand} (h:N7 E H w fr (.bin op x y) v ob fz):M3 E heap w frI n p (.bin op x y) v ob fz:=by
 simp only[N7,j6,aG3] at h
 obtain ⟨a,h1,b,h2,h⟩:=h
 split at h
 case h_2=>cases h
 obtain ⟨h0,rfl,rfl⟩:=T0 h;replace h:=h0
 simp only[aG4] at h
 obtain ⟨r,hr,rfl⟩:=h
 obtain ⟨aI,a1,a2⟩:=o8 hf h1
 obtain ⟨bI,b1,b2⟩:=o8 hf h2
 rw[a2.scv] at a1
 rw[b2.scv] at b1
 exact ⟨r,[],by simp[d9,a1,b1,hr],.pure (.mksc (bY7 hr))⟩
theorem cX9 (hf:FR w fr frI) {g:Bool} {x y:Operand} (h:N7 E H w fr (.eqB g x y) v ob fz):M3 E heap w frI n p (.eqB g x y) v ob fz:=by
 simp only[N7,j6,aG3] at h
 obtain ⟨a,h1,b,h2,h⟩:=h
 split at h
 case h_2=>cases h
 cases h
 obtain ⟨aI,a1,a2⟩:=o8 hf h1
 obtain ⟨bI,b1,b2⟩:=o8 hf h2
 rw[a2.scv] at a1
 rw[b2.scv] at b1
 exact ⟨_,[],by simp[d9,a1,b1],.pure (.mksc rfl)⟩
theorem dH1 (hf:FR w fr frI) {op:UnOp} {x:Operand} (h:N7 E H w fr (.un op x) v ob fz):M3 E heap w frI n p (.un op x) v ob fz:=by
 simp only[N7,j6,aG3] at h
 obtain ⟨a,h1,h⟩:=h
 split at h
 case h_2=>cases h
 obtain ⟨h0,rfl,rfl⟩:=T0 h;replace h:=h0
 simp only[aG4] at h
 obtain ⟨r,hr,rfl⟩:=h
 obtain ⟨aI,a1,a2⟩:=o8 hf h1
 rw[a2.scv] at a1
 exact ⟨r,[],by simp[d9,a1,hr],.pure (.mksc (cX2 hr))⟩
theorem bV5 (hf:FR w fr frI) {k:IntKind} {x:Operand} (h:N7 E H w fr (.convI k x) v ob fz):M3 E heap w frI n p (.convI k x) v ob fz:=by
 simp only[N7,j6,aG3] at h
 obtain ⟨a,h1,h⟩:=h
 split at h
 case h_2=>cases h
 cases h
 obtain ⟨aI,a1,a2⟩:=o8 hf h1
 rw[a2.scv] at a1
 exact ⟨_,[],by simp[d9,a1],.pure (.mksc rfl)⟩
theorem dH0 (hf:FR w fr frI) {g:Bool} {x y:Operand} (h:N7 E H w fr (.mm g x y) v ob fz):M3 E heap w frI n p (.mm g x y) v ob fz:=by
 simp only[N7,j6,aG3] at h
 obtain ⟨a,h1,b,h2,h⟩:=h
 split at h
 case h_2=>cases h
 cases h
 obtain ⟨aI,a1,a2⟩:=o8 hf h1
 obtain ⟨bI,b1,b2⟩:=o8 hf h2
 rw[a2.scv] at a1
 rw[b2.scv] at b1
 exact ⟨_,[],by simp[d9,a1,b1],.pure (.mksc rfl)⟩
theorem cI1 (hf:FR w fr frI) {x:Operand} {lo hi:Option Operand} (h:N7 E H w fr (.slcS x lo hi) v ob fz):M3 E heap w frI n p (.slcS x lo hi) v ob fz:=by
 simp only[N7,j6,aG3] at h
 obtain ⟨a,h1,lo',h2,h7,h3,h⟩:=h
 split at h
 case h_2=>cases h
 simp only[aG3] at h
 obtain ⟨i,hi,j,hj,h⟩:=h
 cases h
 obtain ⟨aI,a1,a2⟩:=o8 hf h1
 rw[a2.scv] at a1
 exact ⟨_,[],by simp[d9,a1,jM hf h2,jM hf h3,hi,hj],.pure (.mksc rfl)⟩
theorem aZ3 (hf:FR w fr frI) {x i:Operand} (h:N7 E H w fr (.idxStr x i) v ob fz):M3 E heap w frI n p (.idxStr x i) v ob fz:=by
 simp only[N7,j6,aG3] at h
 obtain ⟨a,h1,b,h2,h⟩:=h
 split at h
 case h_2=>cases h
 simp only[aG3] at h
 obtain ⟨j,hj,c,hc,h⟩:=h
 cases h
 obtain ⟨aI,a1,a2⟩:=o8 hf h1
 obtain ⟨bI,b1,b2⟩:=o8 hf h2
 rw[a2.scv] at a1
 rw[b2.scv] at b1
 exact ⟨_,[],by simp[d9,a1,b1,hj,hc],.pure (.mksc rfl)⟩
theorem aZ4 (hf:FR w fr frI) {x:Operand} (h:N7 E H w fr (.nilChk x) v ob fz):M3 E heap w frI n p (.nilChk x) v ob fz:=by
 simp only[N7,j6,aG3] at h
 obtain ⟨a,h1,h⟩:=h
 obtain ⟨aI,a1,a2⟩:=o8 hf h1
 split at h<;>first|cases h|skip
 all_goals refine ⟨aI,[],?_,.pure a2⟩
 all_goals simp only[f9] at a2
 ·obtain ⟨_,b,rfl,_⟩:=a2;simp[d9,a1]
 ·obtain ⟨b,rfl,_⟩:=a2;simp[d9,a1]
 ·obtain ⟨_,_,rfl,_⟩:=a2;simp[d9,a1]
 ·obtain ⟨b,rfl,_⟩:=a2;simp[d9,a1]
 ·obtain ⟨rfl,_⟩:=a2;simp[d9,a1]
 ·obtain ⟨rfl,_⟩:=a2;simp[d9,a1]
 ·obtain ⟨rfl,_⟩:=a2;simp[d9,a1]
theorem HV {k:Nat} {vI:Value} {b:Bool} (hv:f9 w v vI) (h:I1 k v=some b):tW k vI=some b:=by
 cases v with
 |sc x=>rw[hv.scv];exact h
 |sl s n l=>
  simp only[I1] at h
  split at h
  case isFalse=>cases h
  rename_i hk
  have:=j9.1 hk;subst this
  simp only[f9,A1] at hv
  rcases hv with ⟨a,c,rfl,_,_,_,hs⟩|⟨h1,rfl,h3,h4⟩
  ·have hb:b=false:=by
    split at h
    ·cases h;rfl
    ·split at h
     ·rename_i h6
      cases h
      rw[<- cB6,j9]
      exact hs (j9.1 h6)
     ·split at h
      ·cases h
      ·cases h;rfl
   subst hb;rfl
  ·rw[aQ4 (by rw[j9];exact h1)] at h
   split at h
   ·rename_i h6
    have h6:=j9.1 h6
    cases h
    rcases h4 with rfl|⟨h5,_⟩
    ·rfl
    ·omega
   ·cases h
 |slk s n c l=>
  simp only[I1] at h
  split at h
  case isFalse=>cases h
  rename_i hk
  have:=j9.1 hk;subst this
  simp only[f9] at hv
  rcases hv with ⟨_,_,⟨a,rfl,_⟩|⟨h1,rfl,_⟩⟩
  ·have hb:b=false:=by
    split at h
    ·cases h;rfl
    ·split at h
     ·cases h
     ·cases h;rfl
   subst hb;rfl
  ·rw[aQ4 (by rw[j9];exact h1)] at h
   cases h
 |ref o k' n c=>
  simp only[I1] at h
  split at h
  case isFalse=>cases h
  rename_i hk
  have:=j9.1 hk;subst this
  cases h
  simp only[f9] at hv
  obtain ⟨_,_,b,rfl,_⟩:=hv;rfl
 |gr s o n=>
  simp only[I1] at h
  split at h
  case isFalse=>cases h
  rename_i hk
  have:=j9.1 hk;subst this
  simp only[f9] at hv
  rcases hv with ⟨_,⟨rfl,h2⟩|⟨hn,b',rfl,_⟩⟩
  ·split at h
   ·rename_i hs
    have hs:=j9.1 hs
    cases h
    rcases h2 with rfl|⟨h3,_⟩
    ·rfl
    ·exact absurd hs h3
   ·cases h
  ·have hb:b=false:=by
    split at h
    ·cases h
     rw[<- cB6,j9];exact hn
    ·split at h
     ·cases h
     ·cases h;rfl
   subst hb;rfl
 |ptr o k'=>
  simp only[I1] at h
  split at h
  case isFalse=>cases h
  rename_i hk
  have:=j9.1 hk;subst this
  cases h
  simp only[f9] at hv
  obtain ⟨_,b,rfl,_⟩:=hv;rfl
 |dp l o=>
  simp only[I1] at h
  split at h
  case isFalse=>cases h
  rename_i hk
  have:=j9.1 hk;subst this
  cases h
  simp only[f9] at hv
  obtain ⟨b,rfl,_⟩:=hv;rfl
 |fn f a b=>
  simp only[I1] at h
  split at h
  case isFalse=>cases h
  rename_i hk
  have:=j9.1 hk;subst this
  cases h
  simp only[f9] at hv
  obtain ⟨_,_,rfl,_⟩:=hv;rfl
 |_=>simp[I1] at h
theorem bV8 (hf:FR w fr frI) {k:Nat} {g:Bool} {x y:Operand} (h:N7 E H w fr (.eqNil k g x y) v ob fz):M3 E heap w frI n p (.eqNil k g x y) v ob fz:=by
 simp only[N7,j6,aG3] at h
 obtain ⟨a,h1,b,h2,q,h3,r,h4,h⟩:=h
 split at h
 case isFalse=>cases h
 rename_i hc
 cases h
 obtain ⟨aI,a1,a2⟩:=o8 hf h1
 obtain ⟨bI,b1,b2⟩:=o8 hf h2
 refine ⟨_,[],?_,.pure (.mksc rfl)⟩
 simp only[d9,a1,b1,HV a2 h3,HV b2 h4,aI2]
 rw[aO9 hc]
end
section
variable {E:G3} {H:E9} {heap:o7} {w:VW} {fr:D0} {frI:Fr} {n p:Nat} {v:V} {ob:Option Obj} {fz:List Nat}
theorem f9.ptr_new {w':VW} {o n:Nat} (h1:o<w'.nx) (h2:w'.μ o=some n) (k:Nat):f9 w' (.ptr o k) (.pointer (some ⟨n,k,some 0⟩)):=by
 simp only[f9]
 exact ⟨h1,n,rfl,fun b hb=>by rw[h2] at hb;cases hb;rfl⟩
theorem f9.ref_new {w':VW} {o n:Nat} (h1:o<w'.nx) (h2:w'.μ o=some n) (k m c:Nat) (hc:I4 m c):f9 w' (.ref o k m c) (.slice (some ⟨n,k,some 0⟩) m c):=by
 simp only[f9]
 exact ⟨h1,hc,n,rfl,fun b hb=>by rw[h2] at hb;cases hb;rfl⟩
theorem f9.gr_new {w':VW} {o n:Nat} (h1:o<w'.nx) (h2:w'.μ o=some n) (m:Nat) (hm:m ≠ 0):f9 w' (.gr 2 o m) (.slice (some ⟨n,0,some 0⟩) m (A5+m)):=by
 simp only[f9]
 exact ⟨h1,.inr ⟨hm,n,rfl,fun b hb=>by rw[h2] at hb;cases hb;rfl⟩⟩
theorem ZZ (z:List Value):Q1 (pN z)=true:=by simp[Q1,pN,bB3,EQ]
theorem aU7 (l:List UInt8):Q1 (l.map fun b=> .sc (.int .u8 b.toNat))=true:=by simp[Q1,bB3,EQ]
theorem bV2 {t:TypeId} {z:List (Nat × Value)} (h:N7 E H w fr (.alloc t z) v ob fz):M3 E heap w frI n p (.alloc t z) v ob fz:=by
 simp only[N7,j6] at h
 split at h
 case isFalse=>cases h
 rename_i hz
 cases h
 exact ⟨_,_,rfl,rfl,rfl,rfl,_,rfl,fun w' h1 h2 h3 h4 h5=>⟨.ptr_new h4 h5 0,rfl,rfl,rfl,.sc _ hz⟩⟩
theorem cX7 (hf:FR w fr frI) {t:TypeId} {x:Operand} (h:N7 E H w fr (.box t x) v ob fz):M3 E heap w frI n p (.box t x) v ob fz:=by
 simp only[N7,j6,aG3] at h
 obtain ⟨a,h1,cs,h2,h⟩:=h
 cases h
 obtain ⟨aI,a1,a2⟩:=o8 hf h1
 exact ⟨_,[⟨aI.cells.toList,1,false,t⟩],by simp[d9,a1],rfl,rfl,rfl,_,rfl,fun w' h3 h4 h5 h6 h7=>⟨.ptr_new h6 h7 0,rfl,rfl,rfl,(jL a2 h2).1.mono h3⟩⟩
theorem bV4 (hf:FR w fr frI) {z:List Value} {ps:List (Nat × Nat × Operand)} (h:N7 E H w fr (.build z ps) v ob fz):M3 E heap w frI n p (.build z ps) v ob fz:=by
 simp only[N7,j6] at h
 split at h
 case isFalse=>cases h
 rename_i hz
 simp only[aG3] at h
 obtain ⟨vs,h1,h⟩:=h
 obtain ⟨h0,rfl,rfl⟩:=T0 h;replace h:=h0
 simp only[aG4] at h
 obtain ⟨cs,h2,rfl⟩:=h
 obtain ⟨qs,a1,a2⟩:=mB hf h1
 obtain ⟨rs,b1,b2⟩:=DX h2 (.sc z hz) a2
 refine ⟨.agg ⟨rs⟩,[],by simp[d9,a1,b1],.pure ?_⟩
 simp only[f9]
 exact ⟨rs,rfl,b2⟩
theorem xW {w':VW} (hr:HR E H heap w) (h9:VW.le w w'):∀ {l:List V} {vs:List Value} {ds:List D},i6 w l vs->cM H l=some ds->Fin w w' (nS l)->LdX heap w w' (nS l)->m6 w' ds vs/\Q1 ds=true
 | [],vs,ds,h,ht,_,_=>by
  simp only[cM,aJ7] at ht;subst ht
  simp only[i6] at h;subst h
  exact ⟨by simp only[m6],rfl⟩
 |x::r,vs,ds,h,ht,hf,ha=>by
  simp only[cM,aG3,aG4] at ht
  obtain ⟨d,h1,ds',h2,rfl⟩:=ht
  simp only[i6] at h
  obtain ⟨u,us,rfl,k1,k2⟩:=h
  obtain ⟨a1,a2⟩:=aB9 hr h9 k1 h1 (fun o ho=>hf o (by simp[nS,ho])) (fun o ho=>ha o (by simp[nS,ho]))
  obtain ⟨b1,b2⟩:=xW hr h9 k2 h2 (fun o ho=>hf o (by simp[nS,ho])) (fun o ho=>ha o (by simp[nS,ho]))
  exact ⟨by simp only[m6];exact ⟨u,us,rfl,a1,b1⟩,by simp only[Q1,dD3,a2,dE6];exact b2⟩
theorem cG4 {v:V} {d:D} (h:dS H v=some d):EQ d=true:=by
 cases v with
 |sc x=>simp only[dS,aJ7] at h;subst h;rfl
 |sl s n l=>
  simp only[dS] at h;split at h;· rename_i ho;cases h;exact ho
  cases h
 |slk s n c l=>
  simp only[dS] at h
  split at h
  ·rename_i hs
   cases h
   rw[cW5,j9,j9] at hs
   exact bV.2 (.inl (by omega))
  ·cases h
 |ref o k n c=>
  simp only[dS] at h
  split at h
  ·split at h
   ·cases h;rfl
   ·cases h
  ·cases h
 |gr s o n=>
  simp only[dS] at h
  split at h
  ·split at h
   ·rename_i hs;cases h;exact bV.2 (.inl hs.2.2.1)
   ·cases h
  ·cases h
 |_=>simp[dS] at h
theorem DK:∀ {l:List V} {ds:List D},cM H l=some ds->Q1 ds=true
 | [],ds,h=>by simp only[cM,aJ7] at h;subst h;rfl
 |x::r,ds,h=>by
  simp only[cM,aG3,aG4] at h
  obtain ⟨d,h1,ds',h2,rfl⟩:=h
  have:=DK h2
  simp only[Q1,dD3,cG4 h1,dE6]
  exact this
theorem M1:∀ {l:List D} {k:Nat} {cs r:List D},F8 l k cs=some r->Q1 l=true->Q1 cs=true->Q1 r=true
 |l,k,[],r,h,hl,hc=>by
  have:r=l:=by cases l<;>cases k<;>simp[F8] at h<;>first|exact h|exact h.symm
  subst this;exact hl
 | [],k,c::cs,r,h,hl,hc=>by cases k<;>simp[F8] at h
 |x::l,0,c::cs,r,h,hl,hc=>by
  simp only[F8,aG4] at h
  obtain ⟨r',h1,rfl⟩:=h
  simp only[Q1,dD3,aO3] at hl hc ⊢
  exact ⟨hc.1,M1 h1 hl.2 hc.2⟩
 |x::l,k+1,c::cs,r,h,hl,hc=>by
  simp only[F8,aG4] at h
  obtain ⟨r',h1,rfl⟩:=h
  have:=M1 h1 (by simp only[Q1,dD3,aO3] at hl;exact hl.2) hc
  simp only[Q1,dD3,aO3] at hl ⊢
  exact ⟨hl.1,this⟩
theorem cG3 {v:V} {vI:Value} {d:D} (h:f9 w v vI) (ht:WS v=some d):A1 w d vI/\EQ d=true:=by
 cases v with
 |sc x=>
  simp only[WS,aJ7] at ht;subst ht
  simp only[f9] at h
  exact ⟨by simp only[A1];exact h,rfl⟩
 |sl s n l=>
  simp only[WS] at ht
  split at ht
  ·rename_i ho;cases ht;simp only[f9] at h;exact ⟨h,ho⟩
  ·cases ht
 |slk s n c l=>
  simp only[WS] at ht
  split at ht
  ·rename_i hs
   have hg:s=0\/s=3:=by
    rw[cW5,j9,j9] at hs;exact hs
   cases ht
   simp only[f9] at h
   obtain ⟨h1,h2,h3⟩:=h
   refine ⟨?_,by rcases hg with rfl|rfl<;>rfl⟩
   simp only[A1]
   rcases h3 with ⟨a,rfl,i,r⟩|⟨k1,k2,k3,k4,rfl⟩
   ·left
    refine ⟨a,c,rfl,i,?_,r,fun e=>by omega⟩
    unfold I4;rw[H0,aO9 h1];exact h2
   ·subst k2 k4;exact .inr ⟨k1,rfl,rfl,.inl rfl⟩
  ·cases ht
 |_=>simp[WS] at ht
theorem WT:∀ {l:List V} {vs:List Value} {ds:List D},i6 w l vs->KG l=some ds->m6 w ds vs/\Q1 ds=true
 | [],vs,ds,h,ht=>by
  simp only[KG,aJ7] at ht;subst ht
  simp only[i6] at h;subst h
  exact ⟨by simp only[m6],rfl⟩
 |x::r,vs,ds,h,ht=>by
  simp only[KG,aG3,aG4] at ht
  obtain ⟨d,h1,ds',h2,rfl⟩:=ht
  simp only[i6] at h
  obtain ⟨u,us,rfl,k1,k2⟩:=h
  obtain ⟨a1,a2⟩:=cG3 k1 h1
  obtain ⟨b1,b2⟩:=WT k2 h2
  exact ⟨by simp only[m6];exact ⟨u,us,rfl,a1,b1⟩,by simp only[Q1,dD3,a2,dE6];exact b2⟩
theorem QY:∀ {ps:List (Nat × Nat × V)} {qs:List (Nat × Nat × Value)} {l r:List D} {ls:List Value},kM l ps=some r->m6 w l ls->Q1 l=true->kD w ps qs->∃ rs,nX ls qs=some rs/\m6 w r rs/\Q1 r=true
 | [],qs,l,r,ls,h,hl,ho,hp=>by
  simp only[kD] at hp;subst hp
  simp only[kM,aJ7] at h;subst h
  exact ⟨ls,rfl,hl,ho⟩
 |(o,n,v)::ps,qs,l,r,ls,h,hl,ho,hp=>by
  simp only[kD] at hp
  obtain ⟨vI,q',rfl,h1,h2⟩:=hp
  simp only[kM,aG3] at h
  obtain ⟨cs,hc,ds,hd,h⟩:=h
  split at h
  case isFalse=>cases h
  rename_i h8
  simp only[aO3] at h8
  simp only[aG3] at h
  obtain ⟨l',he,h⟩:=h
  obtain ⟨c1,c2⟩:=jL h1 hc
  obtain ⟨d1,d2⟩:=WT c1 hd
  obtain ⟨rs,e1,e2⟩:=Q4 he hl d1
  obtain ⟨rs',f1,f2,f3⟩:=QY h e2 (M1 he ho d2) h2
  refine ⟨rs',?_,f2,f3⟩
  simp only[nX]
  rw[d1.length,hl.length,aO9 (by rw[h8.1,h8.2];rfl),e1]
  exact f1
theorem oU {n:Nat} (h:n<A5):I4 n n:=by unfold I4;rw[H0,aO9 h];exact aQ5 _
theorem bW0 (hf:FR w fr frI) {t:TypeId} {e k:Nat} {z:List Value} {ps:List (Nat × Nat × Operand)} (h:N7 E H w fr (.mkRow t e k z ps) v ob fz):M3 E heap w frI n p (.mkRow t e k z ps) v ob fz:=by
 simp only[N7,j6] at h
 split at h
 case isFalse=>cases h
 rename_i hz
 simp only[aO3,bA6] at hz
 simp only[aG3] at h
 obtain ⟨vs,h1,h⟩:=h
 obtain ⟨qs,a1,a2⟩:=mB hf h1
 split at h
 ·rename_i cs h2
  cases h
  obtain ⟨rs,c1,c2,c3⟩:=QY h2 (.sc _ hz.1) (ZZ _) a2
  exact ⟨.slice (some ⟨n,0,some 0⟩) k k,[⟨rs,e,false,t⟩],by simp[d9,a1,c1],rfl,rfl,c3,_,rfl,fun w' h3 h4 h5 h6 h7=>⟨.ref_new h6 h7 0 k k (oU hz.2),rfl,rfl,rfl,c2.mono h3⟩⟩
 ·simp only[aG3] at h
  obtain ⟨cs,h2,h⟩:=h
  cases h
  obtain ⟨rs,c1,c2⟩:=DX h2 (.sc _ hz.1) a2
  exact ⟨.slice (some ⟨n,0,some 0⟩) k k,[⟨rs,e,false,t⟩],by simp[d9,a1,c1],rfl,rfl,rfl,_,rfl,fun w' h3 h4 h5 h6 h7=>⟨.ref_new h6 h7 0 k k (oU hz.2),rfl,rfl,rfl,c2.mono h3⟩⟩
theorem EB (hr:HR E H heap w) {g:Option Nat} {u:V} {uI:Value} (hu:f9 w u uI) (h:dU E.old H g u=some v):∃ vI,(match uI with| .pointer (some a)=>(bK E heap a g)|_=>none)=some vI/\f9 w v vI:=by
 cases u with
 |ptr o k=>
  simp only[f9] at hu
  obtain ⟨h1,b',rfl,h2⟩:=hu
  simp only[dU] at h
  have hD:∀ {l:List D} {blk:A0},i7 heap b'=some blk->m6 w l blk.cells->C0 l k g=some v->∃ vI,bK E heap ⟨b',k,some 0⟩ g=some vI/\f9 w v vI:=by
   intro l blk hb hl h
   cases g with
   |none=>
    simp only[C0,aG4] at h
    obtain ⟨d,hd,rfl⟩:=h
    rw[y7] at hd
    obtain ⟨vI,e1,e2⟩:=hl.get k d hd
    exact ⟨vI,by simp only[bK];rw[fE hb];exact e1,tG e2⟩
   |some m=>
    simp only[C0] at h
    split at h
    ·cases h
    rename_i h0
    rw[j9] at h0
    simp only[aG4] at h
    obtain ⟨ds,hd,rfl⟩:=h
    obtain ⟨rfl,hm⟩:=H8 _ _ hd
    have hh:=hl.length
    rw[dC7] at hm
    refine ⟨.agg ⟨(blk.cells.drop k).take m⟩,by simp only[bK];rw[hZ hb (by omega)];rfl,?_⟩
    simp only[f9]
    exact ⟨_,rfl,xP (hl.part k m)⟩
  split at h
  ·rename_i t e0 l ho
   obtain ⟨b,blk,m1,m2,m3⟩:=hr.obj o _ ho rfl
   have:=h2 b m1
   subst this
   cases g with
   |none=>
    simp only[yR] at h
    rw[y7] at h
    obtain ⟨vI,e1,e2⟩:=m3.2.2.2.get k v h
    exact ⟨vI,by simp only[bK];rw[fE m2];exact e1,e2⟩
   |some m=>
    simp only[yR,aG4] at h
    obtain ⟨ds,hd,rfl⟩:=h
    obtain ⟨rfl,hm⟩:=H8 _ _ hd
    have hh:=m3.2.2.2.length
    rw[dC7] at hm
    by_cases h0:m=0
    ·subst h0
     refine ⟨.agg ⟨[]⟩,by simp only[bK,I9,m2,aI2];cases List.drop k blk.cells<;>rfl,?_⟩
     simp only[List.take_zero,f9,i6]
     exact ⟨[],rfl,rfl⟩
    ·refine ⟨.agg ⟨(blk.cells.drop k).take m⟩,by simp only[bK];rw[hZ m2 (by omega)];rfl,?_⟩
     simp only[f9]
     exact ⟨_,rfl,m3.2.2.2.part k m⟩
  ·rename_i t e g' z l ho
   obtain ⟨b,blk,m1,m2,m3⟩:=hr.obj o _ ho rfl
   have:=h2 b m1
   subst this
   exact hD m2 m3.2.2.2 h
  ·rename_i t e z l ho
   by_cases hn:(Obj.gro t e z l).none=true
   ·cases l with
    |cons=>cases hn
    |nil=>
     cases g with
     |none=>simp[C0,E1] at h
     |some m=>
      cases m with
      |succ m=>simp[C0,F5] at h
      |zero=>simp[C0] at h
   ·obtain ⟨b,blk,m1,m2,m3⟩:=hr.obj o _ ho (by simpa using hn)
    have:=h2 b m1
    subst this
    exact hD m2 m3.2.2.2 h
  ·cases h
 |dp l k=>
  simp only[f9] at hu
  obtain ⟨a,rfl,i,hA⟩:=hu
  simp only[dU] at h
  cases g with
  |none=>
   simp only[C0,aG4] at h
   obtain ⟨d,hd,rfl⟩:=h
   rw[y7] at hd
   obtain ⟨vI,e1,e2⟩:=hA.get k d hd
   rw[hr.ld] at e1
   exact ⟨vI,e1,tG e2⟩
  |some m=>
   simp only[C0] at h
   split at h
   ·cases h
   simp only[aG4] at h
   obtain ⟨ds,hd,rfl⟩:=h
   obtain ⟨rfl,hm⟩:=H8 _ _ hd
   obtain ⟨vs,e1,e2⟩:=mJ hr (mW (n:=k) i) (hA.part k m) m (by rw[cV7];omega)
   rw[List.take_take,Nat.min_self] at e2
   refine ⟨.agg ⟨vs⟩,by simp only[bK,e1];rfl,?_⟩
   simp only[f9]
   exact ⟨vs,rfl,xP e2⟩
 |sc x=>
  have hx:=hu.ok
  have:=hu.scv
  subst this
  cases uI with
  |pointer q=>
   cases q with
   |none=>simp[dU] at h
   |some a=>
    simp only[dU] at h
    cases g with
    |some m=>cases h
    |none=>
     simp only[aG3] at h
     obtain ⟨u,h1,h2⟩:=h
     split at h2
     case isFalse=>cases h2
     rename_i hi
     cases h2
     simp only[D2,Option.isNone_iff_eq_none] at hx
     refine ⟨u,?_,.mksc hi⟩
     simp only[bK,p9,hx]
     exact h1
  |_=>simp[dU] at h
 |_=>simp[dU] at h
theorem cH6 (hr:HR E H heap w) (hf:FR w fr frI) {g:Option Nat} {x:Operand} (h:N7 E H w fr (.load g x) v ob fz):M3 E heap w frI n p (.load g x) v ob fz:=by
 simp only[N7,j6,aG3] at h
 obtain ⟨a,h1,h⟩:=h
 obtain ⟨h0,rfl,rfl⟩:=T0 h;replace h:=h0
 obtain ⟨aI,a1,a2⟩:=o8 hf h1
 obtain ⟨vI,b1,b2⟩:=EB hr a2 h
 refine ⟨vI,[],?_,.pure b2⟩
 simp only[d9,a1,aI2]
 split at b1
 ·simp only[b1];rfl
 ·cases b1
theorem aC9 (hf:FR w fr frI) {t:TypeId} {e b:Nat} {z:List Value} {x y:Operand} (h:N7 E H w fr (.mkSlice t e b z x y) v ob fz):M3 E heap w frI n p (.mkSlice t e b z x y) v ob fz:=by
 simp only[N7,j6,aG3] at h
 obtain ⟨a,h1,c,h2,h⟩:=h
 split at h
 case h_2=>cases h
 split at h
 case isFalse=>cases h
 rename_i hc
 cases h
 obtain ⟨aI,a1,a2⟩:=o8 hf h1
 obtain ⟨bI,b1,b2⟩:=o8 hf h2
 rw[a2.scv] at a1
 rw[b2.scv] at b1
 obtain ⟨h0,h3,h4,h5,h6⟩:=hc
 refine ⟨_,_,by simp only[d9,a1,b1,aI2];rw[aO9 ⟨h0,h3,h4,h5⟩],rfl,rfl,ZZ _,_,rfl,fun w' k1 k2 k3 k4 k5=>⟨.ref_new k4 k5 0 _ _ ?_,rfl,rfl,rfl,.sc _ h6⟩⟩
 unfold I4
 have:s9<A5:=by unfold s9 A5;omega
 rw[H0,aO9 (by omega)]
 omega
theorem cH1 (hf:FR w fr frI) {o:Nat} {x:Operand} (h:N7 E H w fr (.fldA o x) v ob fz):M3 E heap w frI n p (.fldA o x) v ob fz:=by
 simp only[N7,j6,aG3] at h
 obtain ⟨a,h1,h⟩:=h
 obtain ⟨aI,a1,a2⟩:=o8 hf h1
 split at h<;>first|cases h|skip
 ·simp only[f9] at a2
  obtain ⟨k1,b',rfl,k2⟩:=a2
  refine ⟨_,[],by simp[d9,a1]<;>rfl,.pure ?_⟩
  simp only[f9]
  exact ⟨k1,b',rfl,k2⟩
 ·simp only[f9] at a2
  obtain ⟨c,rfl,i,k2⟩:=a2
  refine ⟨_,[],by simp[d9,a1]<;>rfl,.pure ?_⟩
  simp only[f9]
  exact ⟨c,by rw[fD],i,k2⟩
 ·have hx:=a2.ok
  rw[a2.scv] at a1
  exact ⟨_,[],by simp[d9,a1]<;>rfl,.pure (.mksc hx)⟩
theorem PJ {l:List V} {vI:Value} (h:f9 w (.agg l) vI):∃ cs,vI= .agg ⟨cs⟩/\i6 w l cs:=by simpa only[f9] using h
theorem lE {l:List V} {cs:List Value} (h:i6 w l cs) {i:Nat} {v:V} (e:E1 l i=some v):∃ vI,E1 cs i=some vI/\f9 w v vI:=by
 rw[y7] at e
 obtain ⟨vI,a,b⟩:=h.get i v e
 exact ⟨vI,by rw[y7];exact a,b⟩
theorem IL {l r:List V} {cs:List Value} (h:i6 w l cs) {i m:Nat} (e:F5 (l.drop i) m=some r):∃ rs,F5 (cs.drop i) m=some rs/\i6 w r rs:=by
 obtain ⟨rfl,hm⟩:=H8 _ _ e
 have hl:=h.length
 rw[dC7] at hm
 by_cases h0:m=0
 ·subst h0
  exact ⟨[],by cases List.drop i cs<;>rfl,by simp only[List.take_zero,i6]⟩
 ·exact ⟨_,Y2 _ _ (by rw[dC7];omega),h.part i m⟩
theorem cH5 (hf:FR w fr frI) {m e:Nat} {g:Option Nat} {x i:Operand} (h:N7 E H w fr (.idxV m e g x i) v ob fz):M3 E heap w frI n p (.idxV m e g x i) v ob fz:=by
 simp only[N7,j6,aG3] at h
 obtain ⟨a,h1,b,h2,h⟩:=h
 obtain ⟨aI,a1,a2⟩:=o8 hf h1
 obtain ⟨bI,b1,b2⟩:=o8 hf h2
 split at h
 case h_2=>cases h
 rw[b2.scv] at b1
 obtain ⟨cs,rfl,c1⟩:=PJ a2
 simp only[aG3] at h
 obtain ⟨j,hj,h⟩:=h
 split at h
 ·obtain ⟨h0,rfl,rfl⟩:=T0 h;replace h:=h0
  obtain ⟨vI,e1,e2⟩:=lE c1 h
  exact ⟨vI,[],by simp[d9,a1,b1,hj,e1],.pure e2⟩
 ·obtain ⟨h0,rfl,rfl⟩:=T0 h;replace h:=h0
  simp only[aG4] at h
  obtain ⟨r,hr,rfl⟩:=h
  obtain ⟨rs,e1,e2⟩:=IL c1 hr
  refine ⟨.agg ⟨rs⟩,[],by simp[d9,a1,b1,hj,e1],.pure ?_⟩
  simp only[f9]
  exact ⟨rs,rfl,e2⟩
theorem cY0 (hf:FR w fr frI) {i:Nat} {x:Operand} (h:N7 E H w fr (.ext x i) v ob fz):M3 E heap w frI n p (.ext x i) v ob fz:=by
 simp only[N7,j6,aG3] at h
 obtain ⟨a,h1,h⟩:=h
 obtain ⟨aI,a1,a2⟩:=o8 hf h1
 split at h
 case h_2=>cases h
 obtain ⟨h0,rfl,rfl⟩:=T0 h;replace h:=h0
 simp only[f9] at a2
 obtain ⟨cs,rfl,c1⟩:=a2
 obtain ⟨vI,e1,e2⟩:=lE c1 h
 exact ⟨vI,[],by simp[d9,a1,e1],.pure e2⟩
theorem cH7 (hf:FR w fr frI) {f:FuncId} {x y:List Operand} (h:N7 E H w fr (.mkFn f x y) v ob fz):M3 E heap w frI n p (.mkFn f x y) v ob fz:=by
 simp only[N7,j6,aG3] at h
 obtain ⟨a,h1,b,h2,h⟩:=h
 cases h
 obtain ⟨as,a1,a2⟩:=aZ hf h1
 obtain ⟨bs,b1,b2⟩:=aZ hf h2
 refine ⟨.func (.func f) ⟨as⟩ ⟨bs⟩,[],by simp[d9,a1,b1],.pure ?_⟩
 simp only[f9]
 exact ⟨as,bs,rfl,a2,b2⟩
theorem NF {vI:Value} {m:Nat} (hv:f9 w v vI) (h:Y1 v=some m):lenA vI=some m/\(∀ b,vI ≠ .string b):=by
 cases v with
 |sl s k l=>
  simp only[Y1,aJ7] at h;subst h
  simp only[f9,A1] at hv
  rcases hv with ⟨a,c,rfl,_⟩|⟨_,rfl,_,rfl|⟨_,_,_,_,rfl⟩⟩<;>exact ⟨rfl,fun _ e=>by cases e⟩
 |slk s k c l=>
  simp only[Y1,aJ7] at h;subst h
  simp only[f9] at hv
  rcases hv with ⟨_,_,⟨a,rfl,_⟩|⟨_,rfl,_,_,rfl⟩⟩<;>exact ⟨rfl,fun _ e=>by cases e⟩
 |ref o k i c=>
  simp only[Y1,aJ7] at h;subst h
  simp only[f9] at hv
  obtain ⟨_,_,b,rfl,_⟩:=hv
  exact ⟨rfl,fun _ e=>by cases e⟩
 |gr s o k=>
  simp only[Y1,aJ7] at h;subst h
  simp only[f9] at hv
  rcases hv with ⟨_,⟨rfl,rfl|⟨_,a,c,rfl,_⟩⟩|⟨_,b,rfl,_⟩⟩<;>exact ⟨rfl,fun _ e=>by cases e⟩
 |sc x=>
  have hx:=hv.ok
  have:=hv.scv
  subst this
  cases vI with
  |slice a k c=>
   cases a with
   |none=>
    simp only[Y1,aJ7] at h;subst h
    simp only[D2,aO3,j9] at hx
    obtain ⟨rfl,_⟩:=hx
    exact ⟨rfl,fun _ e=>by cases e⟩
   |some a=>simp[Y1] at h
  |_=>simp[Y1] at h
 |_=>simp[Y1] at h
theorem rE {vI:Value} {m:Nat} (hv:f9 w v vI) (h:T6 v=some m):lenA vI=some m:=by
 unfold T6 at h
 split at h
 ·cases h;rw[hv.scv];rfl
 ·exact (NF hv h).1
theorem cY1 (hf:FR w fr frI) {t:Bool} {x:Operand} (h:N7 E H w fr (.len t x) v ob fz):M3 E heap w frI n p (.len t x) v ob fz:=by
 simp only[N7,j6,aG3] at h
 obtain ⟨a,h1,h⟩:=h
 obtain ⟨aI,a1,a2⟩:=o8 hf h1
 split at h
 ·rename_i ht
  subst ht
  split at h
  case h_2=>cases h
  cases h
  rw[a2.scv] at a1
  exact ⟨_,[],by simp[d9,a1],.pure (.mksc rfl)⟩
 ·rename_i ht
  simp only[cB6] at ht
  subst ht
  simp only[aG3] at h
  obtain ⟨m,hm,h⟩:=h
  cases h
  obtain ⟨k1,k2⟩:=NF a2 hm
  refine ⟨_,[],?_,.pure (.mksc rfl)⟩
  simp only[d9,a1,aI2]
  unfold lenA at k1
  split at k1
  ·cases k1;rfl
  ·cases k1;rfl
  ·exact absurd rfl (k2 _)
  ·cases k1
theorem sV:∀ l:List UInt8,m6 w (l.map fun b=> .sc (.int .u8 b.toNat)) (w9 l)
 | []=>by simp[w9,m6]
 |b::r=>by
  simp only[cJ1,m6,A1,w9]
  exact ⟨_,_,rfl,⟨by trivial,rfl⟩,sV r⟩
theorem aZ5 (hf:FR w fr frI) {x:Operand} (h:N7 E H w fr (.rangeS x) v ob fz):M3 E heap w frI n p (.rangeS x) v ob fz:=by
 simp only[N7,j6,aG3] at h
 obtain ⟨a,h1,h⟩:=h
 obtain ⟨aI,a1,a2⟩:=o8 hf h1
 split at h
 case h_2=>cases h
 split at h
 case isFalse=>cases h
 rename_i b hb
 cases h
 rw[a2.scv] at a1
 refine ⟨_,_,by simp only[d9,a1,aI2];rw[aO9 hb],rfl,rfl,rfl,_,rfl,fun w' k1 k2 k3 k4 k5=>⟨?_,rfl,rfl,rfl,?_⟩⟩
 ·simp only[f9]
  exact ⟨k4,n,rfl,fun b hb=>Option.some.inj (k5.symm.trans hb)⟩
 ·simp only[m6,oC]
end
section
variable {E:G3} {H:E9} {heap:o7} {w:VW} {fr:D0} {frI:Fr} {n p:Nat} {v:V} {ob:Option Obj} {fz:List Nat}
theorem aT8 {i:Value} {m j:Nat} (h:B4 i m=some j):j<m:=by
 unfold B4 at h
 split at h
 ·split at h
  ·rename_i hc;cases h;omega
  ·cases h
 ·cases h
theorem cH4 (hf:FR w fr frI) {e:Nat} {x i:Operand} (h:N7 E H w fr (.idxS e x i) v ob fz):M3 E heap w frI n p (.idxS e x i) v ob fz:=by
 simp only[N7,j6,aG3] at h
 obtain ⟨a,h1,b,h2,h⟩:=h
 obtain ⟨aI,a1,a2⟩:=o8 hf h1
 obtain ⟨bI,b1,b2⟩:=o8 hf h2
 split at h
 case h_2=>cases h
 rw[b2.scv] at b1
 split at h
 case h_5=>cases h
 all_goals simp only[aG3] at h
 all_goals obtain ⟨j,hj,h⟩:=h
 all_goals have g4:=aT8 hj
 all_goals cases h
 ·simp only[f9] at a2
  obtain ⟨k1,_,b',rfl,k2⟩:=a2
  refine ⟨_,[],by simp[d9,a1,b1,hj]<;>rfl,.pure ?_⟩
  simp only[f9]
  exact ⟨k1,b',rfl,k2⟩
 ·simp only[f9] at a2
  rcases a2 with ⟨k1,⟨rfl,_⟩|⟨_,b',rfl,k2⟩⟩
  ·omega
  refine ⟨_,[],by simp[d9,a1,b1,hj]<;>rfl,.pure ?_⟩
  simp only[f9]
  exact ⟨k1,b',by simp[C6],k2⟩
 ·simp only[f9,A1] at a2
  rcases a2 with ⟨c,d,rfl,k1,_,k2,_⟩|⟨_,rfl,_⟩
  ·refine ⟨_,[],by simp[d9,a1,b1,hj]<;>rfl,.pure ?_⟩
   simp only[f9]
   exact ⟨c,rfl,k1,k2⟩
  ·omega
 ·simp only[f9] at a2
  rcases a2 with ⟨_,_,⟨c,rfl,k1,k2⟩|⟨_,rfl,_⟩⟩
  ·refine ⟨_,[],by simp[d9,a1,b1,hj]<;>rfl,.pure ?_⟩
   simp only[f9]
   exact ⟨c,rfl,k1,k2⟩
  ·omega
theorem cH3 (hf:FR w fr frI) {m e:Nat} {x i:Operand} (h:N7 E H w fr (.idxA m e x i) v ob fz):M3 E heap w frI n p (.idxA m e x i) v ob fz:=by
 simp only[N7,j6,aG3] at h
 obtain ⟨a,h1,b,h2,h⟩:=h
 obtain ⟨aI,a1,a2⟩:=o8 hf h1
 obtain ⟨bI,b1,b2⟩:=o8 hf h2
 split at h
 case h_2=>cases h
 rw[b2.scv] at b1
 split at h
 case h_4=>cases h
 all_goals simp only[aG3] at h
 all_goals obtain ⟨j,hj,h⟩:=h
 all_goals cases h
 ·simp only[f9] at a2
  obtain ⟨k1,b',rfl,k2⟩:=a2
  refine ⟨_,[],by simp[d9,a1,b1,hj]<;>rfl,.pure ?_⟩
  simp only[f9]
  exact ⟨k1,b',rfl,k2⟩
 ·simp only[f9] at a2
  obtain ⟨c,rfl,k1,k2⟩:=a2
  refine ⟨_,[],by simp[d9,a1,b1,hj]<;>rfl,.pure ?_⟩
  simp only[f9]
  exact ⟨c,by rw[fD],k1,k2⟩
 ·have hx:=a2.ok
  rw[a2.scv] at a1
  exact ⟨_,[],by simp[d9,a1,b1,hj]<;>rfl,.pure (.mksc hx)⟩
theorem V9 {i:Option Value} {d m m' j:Nat} (h:z8 i d m=some j) (hm:m<=m') (hd:d<=m):z8 i d m'=some j/\j<=m:=by
 unfold z8 at h ⊢
 split at h
 ·cases h;exact ⟨rfl,hd⟩
 ·split at h
  ·rename_i hc
   cases h
   exact ⟨by rw[aO9 ⟨hc.1,by omega⟩],by omega⟩
  ·cases h
 ·cases h
theorem I6 {i:Option Value} {d m j:Nat} (h:z8 i d m=some j) (hd:d<=m):j<=m:=(V9 h (aQ5 _) hd).2
theorem H1 {c:Nat} (h:c<A5):B5 c=c:=by rw[H0,aO9 h]
theorem M0 {c:Nat} (h:¬ c<A5):B5 c=c - A5:=by rw[H0,aQ4 h]
theorem jH {m c:Nat} {lo hi mx:Option Value} {r:Nat × Nat × Nat × Bool} (h:uN m c lo hi mx=some r) (hc:I4 m c) (a:Option Addr) (e:Nat):
  slcA e a m c lo hi mx=some (.slice (if r.2.2.2 then a else a.map (C6 · (r.1*e))) (r.2.1 - r.1) r.2.2.1)/\I4 (r.2.1 - r.1) r.2.2.1/\(r.2.2.2=true->r.1=0\/r.2.1=r.1/\r.2.2.1=0)/\r.1<=r.2.1:=by
 unfold I4 at hc ⊢
 unfold uN at h
 unfold slcA
 cases mx with
 |none=>
  simp only[aG3] at h
  obtain ⟨j,hj,i,h5,h⟩:=h
  have h8:=I6 hj hc
  have h7:=I6 h5 (bA5 _)
  simp only[hj,h5,aI2]
  split at h
  ·rename_i hb
   cases h
   rw[aO9 hb]
   rw[bA6] at hb
   rw[H1 hb] at h8
   refine ⟨?_,?_,?_,h7⟩
   ·by_cases e1:c=i
    ·subst e1;simp
    ·have:Nat.beq c i=false:=by rw[<- cB6,j9];exact e1
     simp[e1,this]
   ·simp only;rw[H1 (by omega)];omega
   ·intro ht;simp only at ht;have:=j9.1 ht;right;simp only;omega
  ·rename_i hb
   rw[aQ4 hb]
   rw[bA6] at hb
   rw[M0 hb] at h8
   split at h
   ·rename_i hl
    cases h
    rw[aO9 hl]
    rw[bA6] at hl
    refine ⟨by simp,?_,(fun ht=>by cases ht),h7⟩
    simp only;rw[M0 (by omega)];omega
   ·rename_i hl
    rw[aQ4 hl]
    split at h
    ·rename_i h0
     have h0:=j9.1 h0
     cases h
     subst h0
     refine ⟨by simp,?_,fun _=> .inl rfl,bA5 _⟩
     simp only;rw[M0 hb];omega
    ·cases h
 |some mv=>
  simp only[aG3] at h
  obtain ⟨k,hk,h⟩:=h
  have he:=I6 hk (bA5 _)
  simp only[hk,aI2]
  split at h
  case isFalse=>cases h
  rename_i hb
  rw[aO9 hb]
  simp only[aO3,bA6] at hb
  simp only[aG3] at h
  obtain ⟨j,hj,i,h5,h⟩:=h
  have h8:j<=k:=by
   cases hi with
   |none=>simp at hb
   |some hv=>
    unfold z8 at hj
    split at hj
    ·rename_i e;cases e
    ·split at hj
     ·rename_i g5;cases hj;omega
     ·cases hj
    ·cases hj
  have h7:=I6 h5 (bA5 _)
  simp only[hj,h5,aI2]
  cases h
  refine ⟨?_,?_,?_,h7⟩
  ·by_cases e1:k=i
   ·subst e1;simp
   ·have:Nat.beq k i=false:=by rw[<- cB6,j9];exact e1
    simp[e1,this]
  ·simp only;rw[H1 (by omega)];omega
  ·intro ht;simp only at ht;have:=j9.1 ht;right;simp only;omega
theorem nC (l:List D) (a b:Nat) (h:b<=a):partD l a b= []:=by
 unfold partD
 rw[show b - a=0 by omega];simp
theorem A6.partD {l:List D} {a:Addr} (h:A6 w l a) (i j:Nat):A6 w (partD l i j) (C6 a i):=h.part i (j - i)
theorem A6.nil (a:Addr):A6 w [] a:=by simp only[A6]
theorem lJ (i j:Nat):partD [] i j= []:=by simp[partD]
theorem aP8 {e:Nat} {lo hi mx:Option Value} {u:V} {uI:Value} (hu:f9 w u uI) (h:cO e lo hi mx u=some v):∃ a m c vI,uI= .slice a m c/\slcA e a m c lo hi mx=some vI/\f9 w v vI:=by
 cases u with
 |ref o k m c=>
  simp only[cO,aG4] at h
  obtain ⟨r,hr,rfl⟩:=h
  simp only[f9] at hu
  obtain ⟨k1,k2,b',rfl,k3⟩:=hu
  obtain ⟨s1,s2,s3,s4⟩:=jH hr k2 (some ⟨b',k,some 0⟩) e
  refine ⟨_,_,_,_,rfl,s1,?_⟩
  simp only[f9]
  refine ⟨k1,s2,b',?_,k3⟩
  split<;>rfl
 |gr s o m=>
  simp only[cO] at h
  split at h
  ·cases h
  rename_i hm
  rw[j9] at hm
  simp only[aG4] at h
  obtain ⟨r,hr,rfl⟩:=h
  simp only[f9] at hu
  rcases hu with ⟨k1,⟨rfl,_⟩|⟨_,b',rfl,k3⟩⟩
  ·exact absurd rfl hm
  have hc:I4 m (A5+m):=by unfold I4;rw[M0 (by omega)];omega
  obtain ⟨s1,s2,s3,s4⟩:=jH hr hc (some ⟨b',0,some 0⟩) e
  refine ⟨_,_,_,_,rfl,s1,?_⟩
  simp only[f9]
  refine ⟨k1,s2,b',?_,k3⟩
  split
  ·rfl
  ·simp[C6]
 |sl s m l=>
  simp only[cO] at h
  split at h
  case isFalse=>cases h
  rename_i hw
  rw[bV] at hw
  simp only[f9,A1] at hu
  have hk:∀ (s':Nat),(if Nat.beq s 0 then 0 else 3:Nat)=s'->s' ≠ 1/\s' ≠ 2/\(s ≠ 0->s' ≠ 0):=by
   intro s' e
   subst e
   by_cases hs:s=0
   ·rw[aO9 (j9.2 hs)];exact ⟨by omega,by omega,fun h=>absurd hs h⟩
   ·rw[aQ4 (by rw[j9];exact hs)];exact ⟨by omega,by omega,fun _=>by omega⟩
  obtain ⟨g6,he,hg⟩:=hk _ rfl
  cases mx with
  |none=>
   simp only[aG4] at h
   obtain ⟨⟨i,j⟩,hr,h⟩:=h
   cases h
   simp only[uO,aG3] at hr
   obtain ⟨j',hj,i',h5,hr⟩:=hr
   cases hr
   have h8:=I6 hj (aQ5 _)
   have h7:=I6 h5 (bA5 _)
   rcases hu with ⟨a,c,rfl,k1,k2,k3,_⟩|⟨k1,rfl,rfl,rfl|⟨k2,_⟩⟩
   ·by_cases hh:¬ c<A5/\¬ i<c - A5/\i ≠ 0
    ·obtain ⟨hb,hl,h0⟩:=hh
     unfold I4 at k2
     have k2':=k2
     rw[M0 hb] at k2'
     have hn:i=c - A5:=by omega
     have hy:j=i:=by omega
     have hs:∃ a',slcA e (some a) m c lo hi none=some (.slice (some a') (j - i) (c - i))/\w.inF a':=by
      obtain ⟨ab,ao,asp⟩:=a
      cases asp with
      |none=>
       refine ⟨⟨ab,ao+i*e,none⟩,?_,trivial⟩
       simp only[slcA,(V9 hj k2 (aQ5 _)).1,h5,aI2]
       rw[aQ4 (by rw[bA6];exact hb),aQ4 (by rw[bA6];exact hl),aQ4 h0,aO9 (j9.2 hn)]
      |some q=>
       refine ⟨⟨ab,ao,some (q+i*e)⟩,?_,k1⟩
       simp only[slcA,(V9 hj k2 (aQ5 _)).1,h5,aI2]
       rw[aQ4 (by rw[bA6];exact hb),aQ4 (by rw[bA6];exact hl),aQ4 h0,aO9 (j9.2 hn)]
     obtain ⟨a',hz,g0⟩:=hs
     refine ⟨_,_,_,_,rfl,hz,?_⟩
     simp only[f9,A1]
     left
     refine ⟨a',_,rfl,g0,?_,?_,fun e=>absurd e he⟩
     ·unfold I4
      rw[M0 (by omega)]
      omega
     ·rw[nC _ _ _ (by rw[hy];exact aQ5 _)];exact .nil _
    have hN:uN m c lo hi none=some (i,j,(if i=0/\¬ c<A5/\¬ (0<c - A5) then c else c - i),if c<A5 then Nat.beq c i else if i<c - A5 then false else true):=by
     unfold I4 at k2
     simp only[uN,(V9 hj k2 (aQ5 _)).1,h5,aI2]
     by_cases hb:c<A5
     ·rw[aO9 (by rw[bA6];exact hb),aO9 hb,aQ4 (by omega)]
     ·rw[aQ4 (by rw[bA6];exact hb),aQ4 hb]
      rw[M0 hb] at k2
      by_cases hl:i<c - A5
      ·rw[aO9 (by rw[bA6];exact hl),aO9 hl,aQ4 (by omega)]
      ·rw[aQ4 (by rw[bA6];exact hl),aQ4 hl]
       have h0:i=0:=Decidable.byContradiction fun h0=>hh ⟨hb,hl,h0⟩
       rw[aO9 (j9.2 h0),aO9 ⟨h0,hb,by omega⟩]
       rw[h0]
    obtain ⟨s1,s2,s3,s4⟩:=jH hN k2 (some a) e
    simp only at s1 s2 s3 s4
    refine ⟨_,_,_,_,rfl,s1,?_⟩
    simp only[f9,A1]
    left
    generalize ho:(if c<A5 then Nat.beq c i else if i<c - A5 then false else true)=fl at s3 s1 ⊢
    cases fl with
    |true=>
     refine ⟨a,_,rfl,k1,s2,?_,fun e=>absurd e he⟩
     rcases s3 rfl with h0|⟨h0,_⟩
     ·subst h0;rw[Nat.zero_mul];exact k3.partD 0 _
     ·rw[nC _ _ _ (by rw[h0];exact aQ5 _)];exact .nil _
    |false=>
     exact ⟨C6 a (i*e),_,rfl,mW k1,s2,k3.partD _ _,fun e=>absurd e he⟩
   ·have h9:j=0:=by omega
    have ha:i=0:=by omega
    subst h9 ha
    refine ⟨none,0,0,.slice none 0 0,rfl,?_,?_⟩
    ·have:B5 0=0:=rfl
     simp only[slcA,this,hj,h5,aI2]
     rfl
    ·simp only[f9,A1]
     right
     exact ⟨hg k1,by simp,lJ _ _,.inl (by trivial)⟩
   ·exfalso;omega
  |some mv=>
   simp only[aG3] at h
   obtain ⟨q,hq,h⟩:=h
   split at h
   case isFalse=>cases h
   rename_i hb
   simp only[aG3] at h
   obtain ⟨j,hj,i,h5,h⟩:=h
   cases h
   rcases hu with ⟨a,c,rfl,k1,k2,k3,_⟩|⟨k1,rfl,rfl,rfl|⟨k2,_⟩⟩
   ·have hN:uN m c lo hi (some mv)=some (i,j,q - i,Nat.beq q i):=by
     unfold I4 at k2
     simp only[uN,(V9 hq k2 (bA5 _)).1,aI2]
     rw[aO9 hb]
     simp only[hj,h5,aI2]
    obtain ⟨s1,s2,s3,s4⟩:=jH hN k2 (some a) e
    simp only at s1 s2 s3 s4
    refine ⟨_,_,_,_,rfl,s1,?_⟩
    simp only[aO3,bA6] at hb
    have h6:q - i<A5:=by omega
    simp only[f9]
    unfold I4 at s2
    rw[H1 h6] at s2
    refine ⟨h6,s2,.inl ?_⟩
    generalize ho:Nat.beq q i=fl at s3 s1 ⊢
    cases fl with
    |true=>
     refine ⟨a,rfl,k1,?_⟩
     rcases s3 rfl with h0|⟨h0,_⟩
     ·subst h0;rw[Nat.zero_mul];exact k3.partD 0 _
     ·rw[nC _ _ _ (by rw[h0];exact aQ5 _)];exact .nil _
    |false=>exact ⟨C6 a (i*e),rfl,mW k1,k3.partD _ _⟩
   ·have g1:=I6 hq (bA5 _)
    have hN:uN 0 0 lo hi (some mv)=some (i,j,q - i,Nat.beq q i):=by
     have:B5 0=0:=rfl
     simp only[uN,this,hq,aI2]
     rw[aO9 hb]
     simp only[hj,h5,aI2]
    obtain ⟨s1,s2,s3,s4⟩:=jH hN (bA5 _) none e
    simp only at s1 s2 s3 s4
    have h6:q - i<A5:=by unfold A5;omega
    unfold I4 at s2
    rw[H1 h6] at s2
    refine ⟨none,0,0,_,rfl,s1,?_⟩
    simp only[f9]
    refine ⟨h6,s2,.inr ⟨hg k1,by omega,by omega,lJ _ _,?_⟩⟩
    have e1:j - i=0:=by omega
    have e2:q - i=0:=by omega
    rw[e1,e2]
    split<;>rfl
   ·exfalso;omega
 |slk s m c l=>
  simp only[cO] at h
  split at h
  case h_2=>cases h
  simp only[aG4] at h
  obtain ⟨⟨i,j⟩,hr,rfl⟩:=h
  simp only[uO,aG3] at hr
  obtain ⟨j',hj,i',h5,hr⟩:=hr
  cases hr
  have h8:=I6 hj (aQ5 _)
  have h7:=I6 h5 (bA5 _)
  simp only[f9] at hu
  obtain ⟨k1,k2,hu⟩:=hu
  have hN:uN m c lo hi none=some (i,j,c - i,Nat.beq c i):=by
   simp only[uN,H1 k1,(V9 hj k2 (aQ5 _)).1,h5,aI2]
   rw[aO9 (by rw[bA6];exact k1)]
  have hp:I4 m c:=by unfold I4;rw[H1 k1];exact k2
  rcases hu with ⟨a,rfl,q1,q2⟩|⟨q1,rfl,rfl,rfl,rfl⟩
  ·obtain ⟨s1,s2,s3,s4⟩:=jH hN hp (some a) e
   simp only at s1 s2 s3 s4
   refine ⟨_,_,_,_,rfl,s1,?_⟩
   have h6:c - i<A5:=by omega
   unfold I4 at s2
   rw[H1 h6] at s2
   simp only[f9]
   refine ⟨h6,s2,.inl ?_⟩
   generalize ho:Nat.beq c i=fl at s3 s1 ⊢
   cases fl with
   |true=>
    refine ⟨a,rfl,q1,?_⟩
    rcases s3 rfl with h0|⟨h0,_⟩
    ·subst h0;rw[Nat.zero_mul];exact q2.partD 0 _
    ·rw[nC _ _ _ (by rw[h0];exact aQ5 _)];exact .nil _
   |false=>exact ⟨C6 a (i*e),rfl,mW q1,q2.partD _ _⟩
  ·obtain ⟨s1,s2,s3,s4⟩:=jH hN hp none e
   simp only at s1 s2 s3 s4
   refine ⟨none,0,0,_,rfl,s1,?_⟩
   have h6:0 - i<A5:=by unfold A5;omega
   unfold I4 at s2
   rw[H1 h6] at s2
   simp only[f9]
   refine ⟨h6,s2,.inr ⟨q1,by omega,by omega,lJ _ _,?_⟩⟩
   have e1:j - i=0:=by omega
   have e2:0 - i=0:=by omega
   rw[e1,e2]
   split<;>rfl
 |sc x=>
  have hx:=hu.ok
  have:=hu.scv
  subst this
  cases uI with
  |slice a m c=>
   cases a with
   |some a=>simp[cO] at h
   |none=>
    simp only[D2,aO3,j9] at hx
    obtain ⟨rfl,rfl⟩:=hx
    have hk:B5 0=0:=rfl
    refine ⟨none,0,0,.slice none 0 0,rfl,?_,?_⟩
    ·simp only[cO] at h
     cases mx with
     |none=>
      simp only[aG4,uO,aG3] at h
      obtain ⟨_,⟨j,hj,i,h5,_⟩,_⟩:=h
      have h8:=I6 hj (aQ5 _)
      have h7:=I6 h5 (bA5 _)
      have ha:i=0:=by omega
      have h9:j=0:=by omega
      subst ha h9
      simp only[slcA,hk,hj,h5,aI2]
      rfl
     |some mv=>
      simp only[aG3] at h
      obtain ⟨q,hq,h⟩:=h
      split at h
      case isFalse=>cases h
      rename_i g2
      simp only[aG4,uO,aG3] at h
      obtain ⟨_,⟨j,hj,i,h5,_⟩,_⟩:=h
      have g1:=I6 hq (aQ5 _)
      have h8:=I6 hj (aQ5 _)
      have h7:=I6 h5 (bA5 _)
      have ha:i=0:=by omega
      have h9:j=0:=by omega
      have g3:q=0:=by omega
      subst ha h9 g3
      simp only[slcA,hk,hq,aI2]
      rw[aO9 (by rw[g2];rfl)]
      simp only[hj,h5,aI2]
      rfl
    ·simp only[cO] at h
     have:v= .sc (.slice none 0 0):=by
      cases mx with
      |none=>simp only[aG4] at h;obtain ⟨_,_,rfl⟩:=h;rfl
      |some mv=>
       simp only[aG3] at h
       obtain ⟨q,hq,h⟩:=h
       split at h
       case isFalse=>cases h
       simp only[aG4] at h;obtain ⟨_,_,rfl⟩:=h;rfl
     subst this
     exact .mksc rfl
  |_=>simp[cO] at h
 |_=>simp[cO] at h
theorem cY4 (hf:FR w fr frI) {e:Nat} {x:Operand} {lo hi mx:Option Operand} (h:N7 E H w fr (.slc e x lo hi mx) v ob fz):M3 E heap w frI n p (.slc e x lo hi mx) v ob fz:=by
 simp only[N7,j6,aG3] at h
 obtain ⟨a,h1,lo',h2,h5,h3,mx',h4,h⟩:=h
 obtain ⟨h0,rfl,rfl⟩:=T0 h;replace h:=h0
 obtain ⟨aI,a1,a2⟩:=o8 hf h1
 obtain ⟨ad,m,c,vI,rfl,e1,e2⟩:=aP8 a2 h
 exact ⟨vI,[],by simp[d9,a1,jM hf h2,jM hf h3,jM hf h4,e1],.pure e2⟩
end
section
variable {E:G3} {H:E9} {heap:o7} {w:VW} {fr:D0} {frI:Fr} {n p:Nat} {v:V} {ob:Option Obj} {fz:List Nat}
theorem gU {H:E9}:∀ {l:List V} {ds:List D},cM H l=some ds->ds.length=l.length
 | [],ds,h=>by simp only[cM,aJ7] at h;subst h;rfl
 |x::l,ds,h=>by
  simp only[cM,aG3,aG4] at h
  obtain ⟨d,_,ds',h2,rfl⟩:=h
  simp[gU h2]
theorem WE {e m:Nat} {l:List D × List Nat} (h:M6 H e m v=some l) (hm:∀ n,T6 v=some n->m<=n):l.1.length=m*e:=by
 unfold M6 at h
 split at h
 ·split at h
  ·rename_i hc
   cases h
   have:=dC6 e hc.2
   rw[cV7];omega
  ·cases h
 ·split at h
  ·rename_i hc
   cases h
   have:=dC6 e hc.2
   rw[cV7];omega
  ·cases h
 ·split at h
  ·split at h
   ·cases h;rw[cV7,dC7];omega
   ·cases h
  ·split at h
   ·cases h;rw[cV7,dC7];omega
   ·cases h
  ·split at h
   ·simp only[aG4] at h
    obtain ⟨ds,h1,rfl⟩:=h
    rw[gU h1,cV7,dC7];omega
   ·cases h
  ·cases h
 ·split at h
  ·split at h
   ·rename_i hc
    cases h
    have:=dC6 e hc.2.1
    rw[cV7];omega
   ·cases h
  ·cases h
 ·split at h
  ·rename_i h6;cases h;rw[j9.1 h6];simp
  ·cases h
 ·split at h
  ·rename_i s hc
   cases h
   simp only[aO3,bA2] at hc
   rw[j9.1 hc.1,cZ0,cV7]
   have:s.data.toList.length=s.size:=by simp
   omega
  ·cases h
 ·cases h
theorem oO {l:List D} {b k q:Nat} {blk:A0} (hb:i7 heap b=some blk) (h:m6 w l blk.cells) (hq:k+q<=l.length):∃ vs,I9 E heap ⟨b,k,some 0⟩ q=some vs/\m6 w ((l.drop k).take q) vs:=by
 have hl:=h.length
 exact ⟨_,hZ hb (by omega),h.part k q⟩
def qA (E:G3) (heap:o7) (w:VW) (e m:Nat) (vI:Value) (r:List D × List Nat):Prop:=
 ∃ cs,s6 E heap e m vI=some cs/\cs.length=r.1.length/\cs.all E0=true/\∀ w',VW.le w w'->Fin w w' r.2->LdX heap w w' r.2->m6 w' r.1 cs
theorem V1 {e m:Nat} {vI:Value} {l:List D} (h:∃ cs,s6 E heap e m vI=some cs/\m6 w l cs):qA E heap w e m vI (l,[]):=by
 obtain ⟨cs,h1,h2⟩:=h
 exact ⟨cs,h1,h2.length,h2.one,fun w' k1 _ _=>h2.mono k1⟩
theorem WV {w:VW}:∀ {l:List V} {vs:List Value} {ds:List D},i6 w l vs->cM H l=some ds->vs.all E0=true
 | [],vs,ds,h,ht=>by simp only[i6] at h;subst h;rfl
 |x::r,vs,ds,h,ht=>by
  simp only[cM,aG3,aG4] at ht
  obtain ⟨d,h1,ds',h2,rfl⟩:=ht
  simp only[i6] at h
  obtain ⟨u,us,rfl,k1,k2⟩:=h
  have:dM x=true:=by
   cases x with
   |agg l=>simp[dS] at h1
   |tup l=>simp[dS] at h1
   |dead=>simp[dS] at h1
   |tok o=>simp[dS] at h1
   |_=>rfl
  simp only[dD3,k1.one this,dE6]
  exact WV k2 h2
theorem Y5 (hr:HR E H heap w) {e m:Nat} {r:List D × List Nat} {vI:Value} (hv:f9 w v vI) (h:M6 H e m v=some r) (hm:∀ n,T6 v=some n->m<=n):qA E heap w e m vI r:=by
 have h7:∀ {u:Value},m=0->r=([],[])->(u= .slice none 0 0\/∃ a b c,u= .complex a b c)->qA E heap w e m u r:=by
  intro u h0 h1 h2
  subst h0 h1
  exact V1 (by rcases h2 with rfl|⟨a,b,c,rfl⟩<;>exact ⟨[],rfl,by simp only[m6]⟩)
 unfold M6 at h
 split at h
 ·rename_i s n l
  split at h
  case isFalse=>cases h
  rename_i hc
  cases h
  have hu:=dC6 e hc.2
  simp only[f9,A1] at hv
  rcases hv with ⟨a,c,rfl,i,_,hA,_⟩|⟨_,rfl,rfl,rfl|⟨_,a,b,c,rfl⟩⟩
  ·exact V1 (mJ hr i hA (m*e) (by omega))
  ·exact h7 (by omega) (by simp) (.inl rfl)
  ·exact h7 (by omega) (by simp) (.inr ⟨_,_,_,rfl⟩)
 ·rename_i s n c l
  split at h
  case isFalse=>cases h
  rename_i hc
  cases h
  have hu:=dC6 e hc.2
  simp only[f9] at hv
  rcases hv with ⟨_,_,⟨a,rfl,i,hA⟩|⟨_,rfl,_,rfl,rfl⟩⟩
  ·exact V1 (mJ hr i hA (m*e) (by omega))
  ·exact h7 (by omega) (by simp) (.inl rfl)
 ·rename_i o k n c
  simp only[f9] at hv
  obtain ⟨k1,_,b',rfl,k3⟩:=hv
  split at h
  ·rename_i t e' g z l' ho
   split at h
   case isFalse=>cases h
   rename_i hc
   cases h
   obtain ⟨b,blk,m1,m2,m3⟩:=hr.obj o _ ho rfl
   have:=k3 b m1
   subst this
   exact V1 (oO (E:=E) m2 m3.2.2.2 hc)
  ·rename_i t e' z l' ho
   split at h
   case isFalse=>cases h
   rename_i hc
   cases h
   have h8:(Obj.gro t e' z l').none=false:=by
    cases l' with
    |nil=>
     exfalso
     have:=Nat.mul_pos (cZ7 hc.2.1) (cZ7 hc.2.2)
     simp at hc;omega
    |cons=>rfl
   obtain ⟨b,blk,m1,m2,m3⟩:=hr.obj o _ ho h8
   have:=k3 b m1
   subst this
   exact V1 (oO (E:=E) m2 m3.2.2.2 hc.1)
  ·rename_i t e' l' ho
   split at h
   case isFalse=>cases h
   rename_i hc
   simp only[aG4] at h
   obtain ⟨ds,hd,rfl⟩:=h
   obtain ⟨b,blk,m1,m2,m3⟩:=hr.obj o _ ho rfl
   have:=k3 b m1
   subst this
   have gh:=m3.2.2.2.length
   have hp:=m3.2.2.2.part k (m*e)
   refine ⟨(blk.cells.drop k).take (m*e),hZ (E:=E) m2 (by omega),?_,WV hp hd,fun w' q1 q2 q3=>(xW hr q1 hp hd q2 q3).1⟩
   rw[gU hd,hp.length]
  ·cases h
 ·rename_i s o n
  split at h
  case h_2=>cases h
  rename_i t e' z l' ho
  split at h
  case isFalse=>cases h
  rename_i hc
  cases h
  have hu:=dC6 e hc.2.1
  simp only[f9] at hv
  obtain ⟨k1,hv⟩:=hv
  rcases hv with ⟨rfl,rfl|⟨_,a,c,rfl,i⟩⟩|⟨hn,b',rfl,k3⟩
  ·have hg:l'= []:=bA8 (by rw[hc.1];simp)
   exact h7 (by omega) (by rw[hg];simp) (.inl rfl)
  ·have hg:l'= []:=bA8 (by rw[hc.1];simp)
   subst hg
   exact V1 (mJ hr i (A6.nil a) (m*e) (by (have:m=0:=by omega);subst this;simp))
  ·have h8:(Obj.gro t e' z l').none=false:=by
    cases l' with
    |nil=>
     exfalso
     have:=Nat.mul_pos (cZ7 hn) (cZ7 hc.2.2)
     simp at hc;omega
    |cons=>rfl
   obtain ⟨b,blk,m1,m2,m3⟩:=hr.obj o _ ho h8
   have:=k3 b m1
   subst this
   have:=oO (E:=E) (k:=0) (q:=m*e) m2 m3.2.2.2 (by omega)
   rw[dD7] at this
   exact V1 this
 ·rename_i q1 q2
  split at h
  case isFalse=>cases h
  rename_i h6
  cases h
  have hx:=hv.ok
  have:=hv.scv
  subst this
  simp only[D2,aO3,j9] at hx
  obtain ⟨rfl,rfl⟩:=hx
  exact h7 (j9.1 h6) rfl (.inl rfl)
 ·rename_i s
  split at h
  case isFalse=>cases h
  rename_i hc
  cases h
  simp only[aO3,bA2] at hc
  have he:=j9.1 hc.1
  subst he
  have:=hv.scv
  subst this
  refine V1 ⟨w9 (s.data.toList.take m),?_,sV _⟩
  have gi:s.data.toList.length=s.size:=by simp
  show (F5 s.data.toList m).map w9=_
  rw[Y2 _ _ (by omega)]
  rfl
 ·cases h
theorem qA.plain (hr:HR E H heap w) {e m:Nat} {vI:Value} {r:List D × List Nat} (h:qA E heap w e m vI r) (h2:r.2= []):∃ cs,s6 E heap e m vI=some cs/\m6 w r.1 cs:=by
 obtain ⟨cs,h1,_,_,h3⟩:=h
 exact ⟨cs,h1,h3 w ⟨fun _ _=>rfl,fun _ h=>h,aQ5 _,fun _ _ _ h=>h⟩ (by rw[h2];intro o ho;cases ho) (by rw[h2];intro o ho;cases ho)⟩
theorem tC:∀ {l:List D} {bs:List UInt8} {cs:List Value},E4 l=some bs->m6 w l cs->bytesOf cs=some bs
 | [],bs,cs,h,hl=>by
  simp only[m6] at hl;subst hl
  simp only[E4,aJ7] at h;subst h;rfl
 | .sc (.int .u8 n)::r,bs,cs,h,hl=>by
  simp only[m6,A1] at hl
  obtain ⟨v,vs,rfl,⟨rfl,_⟩,h2⟩:=hl
  simp only[E4,aG4] at h
  obtain ⟨bs',h1,rfl⟩:=h
  simp[bytesOf,tC h1 h2]
 | .sc (.int .i8 n)::r,bs,cs,h,hl=>by simp[E4] at h
 | .sc (.int .i16 n)::r,bs,cs,h,hl=>by simp[E4] at h
 | .sc (.int .i32 n)::r,bs,cs,h,hl=>by simp[E4] at h
 | .sc (.int .i64 n)::r,bs,cs,h,hl=>by simp[E4] at h
 | .sc (.int .u16 n)::r,bs,cs,h,hl=>by simp[E4] at h
 | .sc (.int .u32 n)::r,bs,cs,h,hl=>by simp[E4] at h
 | .sc (.int .u64 n)::r,bs,cs,h,hl=>by simp[E4] at h
 | .sc (.bool _)::r,bs,cs,h,hl=>by simp[E4] at h
 | .sc (.float _ _)::r,bs,cs,h,hl=>by simp[E4] at h
 | .sc (.complex _ _ _)::r,bs,cs,h,hl=>by simp[E4] at h
 | .sc (.string _)::r,bs,cs,h,hl=>by simp[E4] at h
 | .sc (.pointer _)::r,bs,cs,h,hl=>by simp[E4] at h
 | .sc (.slice _ _ _)::r,bs,cs,h,hl=>by simp[E4] at h
 | .sc (.map _)::r,bs,cs,h,hl=>by simp[E4] at h
 | .sc (.chan _)::r,bs,cs,h,hl=>by simp[E4] at h
 | .sc (.func _ _ _)::r,bs,cs,h,hl=>by simp[E4] at h
 | .sc (.nilFunc)::r,bs,cs,h,hl=>by simp[E4] at h
 | .sc (.iface _ _)::r,bs,cs,h,hl=>by simp[E4] at h
 | .sc (.nilIface)::r,bs,cs,h,hl=>by simp[E4] at h
 | .sc (.agg _)::r,bs,cs,h,hl=>by simp[E4] at h
 | .sc (.tuple _)::r,bs,cs,h,hl=>by simp[E4] at h
 | .sl _ _ _::r,bs,cs,h,hl=>by simp[E4] at h
theorem cX5 (hr:HR E H heap w) (hf:FR w fr frI) {x:Operand} (h:N7 E H w fr (.b2s x) v ob fz):M3 E heap w frI n p (.b2s x) v ob fz:=by
 simp only[N7,j6,aG3] at h
 obtain ⟨a,h1,h⟩:=h
 split at h
 case isFalse=>cases h
 rename_i h5
 simp only[aG3] at h
 obtain ⟨m,h2,l,h3,h⟩:=h
 split at h
 ·cases h
 rename_i hw
 simp only[cL0,Bool.not_eq_false,List.isEmpty_iff] at hw
 simp only[aG3] at h
 obtain ⟨bs,h4,h⟩:=h
 cases h
 obtain ⟨aI,a1,a2⟩:=o8 hf h1
 obtain ⟨q1,q2⟩:=NF a2 h2
 have gb:T6 a=some m:=by
  unfold T6
  split
  ·rename_i s;exact absurd a2.scv (q2 s)
  ·exact h2
 obtain ⟨cs,c1,c2⟩:=(Y5 hr a2 h3 (fun k hk=>by rw[gb] at hk;cases hk;exact aQ5 _)).plain hr hw
 have hb:=tC h4 c2
 refine ⟨_,[],?_,.pure (.mksc rfl)⟩
 simp only[d9,a1,aI2]
 have gc:∀ k b e,aI ≠ .complex k b e:=by
  intro k b e ee
  subst ee
  cases a with
  |sl s k' l'=>
   simp only[f9,A1] at a2
   rcases a2 with ⟨_,_,e,_⟩|⟨_,h0,_,e|⟨hs,_⟩⟩
   ·cases e
   ·cases e
   ·exact (bV (l:=l').1 h5).elim (fun h=>h hs) (fun h=>h h0)
  |sc u=>have:=a2.ok;have h':=a2.scv;subst h';cases this
  |slk s k' c' l'=>simp only[f9] at a2;rcases a2 with ⟨_,_,⟨_,e,_⟩|⟨_,_,_,_,e⟩⟩<;>cases e
  |ref o k' i c'=>simp only[f9] at a2;obtain ⟨_,_,_,e,_⟩:=a2;cases e
  |gr s o k'=>simp only[f9] at a2;rcases a2 with ⟨_,⟨_,e|⟨_,_,_,e,_⟩⟩|⟨_,_,e,_⟩⟩<;>cases e
  |_=>simp[Y1] at h2
 unfold lenA at q1
 split at q1
 ·rename_i ad k c
  cases q1
  cases ad with
  |none=>
   simp only[s6] at c1
   split at c1
   ·cases c1
    simp only[bytesOf,aJ7] at hb
    subst hb
    rfl
   ·cases c1
  |some ad=>
   simp only[s6,dK7] at c1
   simp[c1,hb]
 ·exact absurd rfl (gc _ _ _)
 ·exact absurd rfl (q2 _)
 ·cases q1
theorem bU9 (hr:HR E H heap w) {t:TypeId} {e b:Nat} {x y:V} {xI yI:Value} (hx:f9 w x xI) (hy:f9 w y yI) (h:oI H w.nx t e b x y=some (v,ob,fz)):∃ vI bs,bB E ⟨heap,n,p⟩ t e b xI yI=some (vI,bs)/\kC heap w n v ob fz vI bs:=by
 simp only[oI,aG3] at h
 obtain ⟨m,hm,new,hz,h⟩:=h
 have g6:=rE hy hm
 split at h
 ·rename_i h0
  have key:∀ {a:Option Addr} {k c:Nat},xI= .slice a k c->I4 k c->bB E ⟨heap,n,p⟩ t e b xI yI=some (xI,[]):=by
   intro a k c e1 e2
   subst e1
   simp only[bB,g6,aI2]
   rw[aO9 h0,aO9 (by rw[bA2];exact e2)]
  split at h
  ·split at h
   case isFalse=>cases h
   rename_i h5
   cases h
   rw[bV] at h5
   refine ⟨xI,[],?_,.pure hx⟩
   simp only[f9,A1] at hx
   rcases hx with ⟨a,c,rfl,_,k,_⟩|⟨_,rfl,_,rfl|⟨hs,_⟩⟩
   ·exact key rfl k
   ·exact key rfl (bA5 _)
   ·exact absurd h5 (by omega)
  ·cases h
   refine ⟨xI,[],?_,.pure hx⟩
   simp only[f9] at hx
   rcases hx with ⟨hc,hn,⟨a,rfl,_⟩|⟨_,rfl,rfl,_,rfl⟩⟩
   ·exact key rfl (by unfold I4;rw[H1 hc];exact hn)
   ·exact key rfl (bA5 _)
  ·cases h
   refine ⟨xI,[],?_,.pure hx⟩
   simp only[f9] at hx
   obtain ⟨_,hc,b',rfl,_⟩:=hx
   exact key rfl hc
  ·cases h
   have hk:=hx.ok
   have:=hx.scv
   subst this
   simp only[D2,aO3,j9] at hk
   obtain ⟨rfl,rfl⟩:=hk
   exact ⟨_,[],key rfl (bA5 _),.pure hx⟩
  ·cases h
 ·rename_i h0
  split at h
  case isFalse=>cases h
  rename_i h5
  simp only[aO3,cL0] at h5
  have h6:m ≠ 0:=by rw[j9] at h0;exact h0
  have gd:e ≠ 0:=by have:=h5.2;rw[<- cB6,j9] at this;exact this
  have g8:∀ k,T6 y=some k->m<=k:=fun k hk=>by rw[hm] at hk;cases hk;exact aQ5 _
  obtain ⟨cs,c1,c0,c3,c2⟩:=Y5 hr hy hz g8
  have gj:=WE hz g8
  have g9:new.1.length ≠ 0:=by
   have:=Nat.mul_pos (cZ7 h6) (cZ7 gd);omega
  have key:∀ {a:Option Addr} {k c:Nat} {old:List D × List Nat},xI= .slice a k c->c<A5->c<k+m->k+m<=s9->(k+m)*b<=s9->qA E heap w e k xI old->Q1 old.1=true->
    ∃ vI bs,bB E ⟨heap,n,p⟩ t e b xI yI=some (vI,bs)/\kC heap w n (.gr 2 w.nx (k+m)) (some (.gro t e false (old.1++new.1))) (old.2++new.2) vI bs:=by
   intro a k c old e1 g1 g2 g3 g4 g5 g7
   obtain ⟨us,u1,u0,u3,u2⟩:=g5
   refine ⟨.slice (some ⟨n,0,some 0⟩) (k+m) (A5+(k+m)),[⟨us++cs,e,true,t⟩],?_,?_,rfl,?_,_,rfl,fun w' k1 k2 k3 k4 k5=>⟨.gr_new k4 k5 _ (by omega),rfl,rfl,rfl,
    (u2 w' k1 (fun o ho=>k2 o (cB1.2 (.inl ho))) (fun o ho=>k3 o (cB1.2 (.inl ho)))).append (c2 w' k1 (fun o ho=>k2 o (cB1.2 (.inr ho))) (fun o ho=>k3 o (cB1.2 (.inr ho))))⟩⟩
   ·subst e1
    simp only[bB,g6,aI2]
    rw[aQ4 h0,aO9 (by simp only[aO3,bA2,bA6];exact ⟨⟨⟨g3,g4⟩,g1⟩,g2⟩),c1]
    simp only[aI2,u1,aX8]
   ·cases h1:old.1++new.1 with
    |nil=>
     have:=congrArg List.length h1
     rw[bA4,dA2] at this
     omega
    |cons=>rfl
   ·simp only[Obj.ok,Q1,dD1,aO3]
    exact ⟨g7,h5.1⟩
  have gf:qA E heap w e 0 (.slice none 0 0) ([],[]):=V1 ⟨[],rfl,by simp only[m6]⟩
  split at h
  ·split at h
   case isFalse=>cases h
   rename_i hc
   simp only[aO3,bA2] at hc
   cases h
   have hk:=hx.ok
   have:=hx.scv
   subst this
   simp only[D2,aO3,j9] at hk
   obtain ⟨rfl,rfl⟩:=hk
   have:=key rfl (by unfold A5;omega) (by omega) (by rw[cZ9];exact hc.1) (by rw[cZ9];exact hc.2) gf rfl
   simpa only[cZ9,dJ3] using this
  ·rename_i s k c l
   split at h
   case isFalse=>cases h
   rename_i hc
   simp only[aO3,bA2,bA6] at hc
   obtain ⟨g0,⟨⟨g2,g7⟩,g3⟩,g4⟩:=hc
   cases h
   have gg:=hx
   simp only[f9] at hx
   have hh:M6 H e k (.slk s k c l)=some (l,[]):=by
    simp only[M6]
    rw[aO9 ⟨g0,aQ5 _⟩,cS6 (by omega)]
   have h9:=Y5 hr gg hh (fun j hj=>by simp[T6,Y1] at hj;omega)
   rcases hx with ⟨ga,hn,⟨a,rfl,_⟩|⟨_,rfl,rfl,_,rfl⟩⟩
   ·exact key rfl ga g2 g3 g4 h9 g7
   ·exact key rfl ga g2 g3 g4 h9 g7
  ·rename_i o k j c
   split at h
   case isFalse=>cases h
   rename_i hc
   simp only[aO3,bA2,bA6] at hc
   obtain ⟨⟨⟨g1,g2⟩,g3⟩,g4⟩:=hc
   simp only[aG3] at h
   obtain ⟨l,hh,h⟩:=h
   split at h
   case isFalse=>cases h
   rename_i g7
   cases h
   have h9:=Y5 hr hx hh (fun i hi=>by simp[T6,Y1] at hi;omega)
   simp only[f9] at hx
   obtain ⟨_,_,b',rfl,_⟩:=hx
   exact key rfl g1 g2 g3 g4 h9 g7
  ·cases h
theorem cX4 (hr:HR E H heap w) (hf:FR w fr frI) {t:TypeId} {e b:Nat} {x y:Operand} (h:N7 E H w fr (.app t e b x y) v ob fz):M3 E heap w frI n p (.app t e b x y) v ob fz:=by
 simp only[N7,j6,aG3] at h
 obtain ⟨a,h1,c,h2,h⟩:=h
 obtain ⟨aI,a1,a2⟩:=o8 hf h1
 obtain ⟨bI,b1,b2⟩:=o8 hf h2
 obtain ⟨vI,bs,e1,e2⟩:=bU9 hr a2 b2 h (n:=n) (p:=p)
 exact ⟨vI,bs,by simp[d9,a1,b1,e1],e2⟩
theorem cH0 (hf:FR w fr frI) {g lit:Bool} {ts:List TypeId} {x y:Operand} (h:N7 E H w fr (.eqIf g lit ts x y) v ob fz):M3 E heap w frI n p (.eqIf g lit ts x y) v ob fz:=by
 simp only[N7,j6,aG3] at h
 obtain ⟨a,h1,c,h2,h⟩:=h
 obtain ⟨aI,a1,a2⟩:=o8 hf h1
 obtain ⟨bI,b1,b2⟩:=o8 hf h2
 split at h
 ·simp only[aG3] at h
  obtain ⟨r,hr,h⟩:=h
  cases h
  rw[a2.scv] at a1
  rw[b2.scv] at b1
  exact ⟨_,[],by simp[d9,a1,b1,hr],.pure (.mksc rfl)⟩
 ·cases h
  rw[b2.scv] at b1
  simp only[f9] at a2
  obtain ⟨u,rfl,_⟩:=a2
  exact ⟨_,[],by simp[d9,a1,b1,vT],.pure (.mksc rfl)⟩
 ·cases h
theorem vS:∀ {ps:List (Nat × Nat)} {xs ys:List V} {cs ds:List Value} {q:Bool},X7 ps xs ys=some q->i6 w xs cs->i6 w ys ds->G6 ps cs ds=some q
 | [],xs,ys,cs,ds,q,h,_,_=>h
 |(o,c)::r,xs,ys,cs,ds,q,h,h1,h2=>by
  simp only[X7] at h
  cases hx:E1 xs o with
  |none=>rw[hx] at h;simp[aT,LJ] at h
  |some x=>
   cases hy:E1 ys o with
   |none=>rw[hx,hy] at h;cases x<;>simp[aT,LJ] at h
   |some y=>
    obtain ⟨a,ha,ra⟩:=lE h1 hx
    obtain ⟨b,hb,rb⟩:=lE h2 hy
    rw[hx,hy] at h
    simp only[G6,ha,hb,aI2]
    cases x<;>cases y<;>first|(simp[aT,LJ] at h;done)|skip
    rename_i x y
    rw[ra.scv,rb.scv]
    simp only[aT] at h
    cases he:tH c x y with
    |none=>rw[he] at h;simp[LJ] at h
    |some p=>
     rw[he] at h
     cases p with
     |false=>simpa [LJ] using h
     |true=>simp only[LJ] at h;simp only[aI2];exact vS h h1 h2
theorem bV7 (hf:FR w fr frI) {g:Bool} {ps:List (Nat × Nat)} {x y:Operand} (h:N7 E H w fr (.eqAgg g ps x y) v ob fz):M3 E heap w frI n p (.eqAgg g ps x y) v ob fz:=by
 simp only[N7,j6,aG3,aG4] at h
 obtain ⟨a,h1,c,h2,r,h3,h⟩:=h
 cases h
 obtain ⟨aI,a1,a2⟩:=o8 hf h1
 obtain ⟨bI,b1,b2⟩:=o8 hf h2
 unfold kO at h3
 split at h3
 case h_2=>cases h3
 rename_i xs ys
 simp only[aG4] at h3
 obtain ⟨q,hq,rfl⟩:=h3
 simp only[f9] at a2 b2
 obtain ⟨cs,rfl,k1⟩:=a2
 obtain ⟨ds,rfl,k2⟩:=b2
 exact ⟨_,[],by simp[d9,a1,b1,ZH,vS hq k1 k2],.pure (.mksc rfl)⟩
theorem bV9 (hr:HR E H heap w) (hf:FR w fr frI) {g:Bool} {x y:Operand} (h:N7 E H w fr (.eqPtr g x y) v ob fz):M3 E heap w frI n p (.eqPtr g x y) v ob fz:=by
 simp only[N7,j6,aG3] at h
 obtain ⟨a,h1,c,h2,h⟩:=h
 obtain ⟨aI,a1,a2⟩:=o8 hf h1
 obtain ⟨bI,b1,b2⟩:=o8 hf h2
 split at h
 ·simp only[aG3] at h
  obtain ⟨r,hr,h⟩:=h
  cases h
  rw[a2.scv] at a1
  rw[b2.scv] at b1
  exact ⟨_,[],by simp[d9,a1,b1,hr],.pure (.mksc rfl)⟩
 ·cases h
  rw[a2.scv] at a1
  simp only[f9] at b2
  obtain ⟨_,u,rfl,_⟩:=b2
  exact ⟨_,[],by simp[d9,a1,b1,kQ],.pure (.mksc rfl)⟩
 ·cases h
  rw[b2.scv] at b1
  simp only[f9] at a2
  obtain ⟨_,u,rfl,_⟩:=a2
  exact ⟨_,[],by simp[d9,a1,b1,kQ],.pure (.mksc rfl)⟩
 ·rename_i o k o' k'
  split at h
  case isFalse=>cases h
  rename_i hc
  obtain ⟨rfl,hc⟩:=hc
  split at h
  ·cases h
  rename_i h8
  cases h
  obtain ⟨obj,ho⟩:=dJ5.1 hc
  have g9:obj.none=false:=by
   cases obj with
   |gro t e z l=>exact absurd ho (h8 t e z l)
   |_=>rfl
  obtain ⟨b,blk,m1,m2,m3⟩:=hr.obj o _ ho g9
  simp only[f9] at a2 b2
  obtain ⟨_,u,rfl,q1⟩:=a2
  obtain ⟨_,u',rfl,q2⟩:=b2
  rw[q1 b m1] at a1
  rw[q2 b m1] at b1
  refine ⟨_,[],?_,.pure (.mksc rfl)⟩
  simp[d9,a1,b1,kQ]
 ·cases h
theorem bW2 (hr:HR E H heap w) (hf:FR w fr frI) {x:Operand} (h:N7 E H w fr (.toUns x) v ob fz):M3 E heap w frI n p (.toUns x) v ob fz:=by
 simp only[N7,j6,aG3] at h
 obtain ⟨a,h1,h⟩:=h
 obtain ⟨aI,a1,a2⟩:=o8 hf h1
 split at h
 ·cases h
  rw[a2.scv] at a1
  exact ⟨_,[],by simp[d9,a1],.pure (.mksc rfl)⟩
 ·rename_i o k
  split at h
  case h_2=>cases h
  rename_i t e0 l ho
  split at h
  case isFalse=>cases h
  rename_i hk
  cases h
  obtain ⟨b,blk,m1,m2,m3⟩:=hr.obj o _ ho rfl
  have a2':=a2
  simp only[f9] at a2
  obtain ⟨_,u,rfl,q⟩:=a2
  have:=q b m1
  subst this
  refine ⟨_,[],?_,.pure a2'⟩
  simp only[d9,a1,aI2,SV,m2]
  rw[aO9 (by rw[bA6] at hk ⊢;rw[m3.2.2.2.length];exact hk)]
 ·cases h
theorem aC8 (hr:HR E H heap w) (hf:FR w fr frI) {t:TypeId} {m:Nat} {x:Operand} (h:N7 E H w fr (.fromUns t m x) v ob fz):M3 E heap w frI n p (.fromUns t m x) v ob fz:=by
 simp only[N7,j6,aG3] at h
 obtain ⟨a,h1,h⟩:=h
 obtain ⟨aI,a1,a2⟩:=o8 hf h1
 split at h
 ·cases h
  rw[a2.scv] at a1
  exact ⟨_,[],by simp[d9,a1],.pure (.mksc rfl)⟩
 ·rename_i o k
  split at h
  case h_2=>cases h
  rename_i t' e0 l ho
  split at h
  case isFalse=>cases h
  rename_i hk
  cases h
  obtain ⟨b,blk,m1,m2,m3⟩:=hr.obj o _ ho rfl
  have a2':=a2
  simp only[f9] at a2
  obtain ⟨_,u,rfl,q⟩:=a2
  have:=q b m1
  subst this
  refine ⟨_,[],?_,.pure a2'⟩
  simp only[d9,a1,aI2,mE,m2]
  simp only[aO3] at hk
  rw[aO9 (by simp only[aO3,cL0];rw[m3.2.2.1,m3.2.1,m3.2.2.2.length];exact ⟨⟨⟨⟨hk.1.1.1,rfl⟩,hk.1.1.2⟩,hk.1.2⟩,hk.2⟩)]
 ·cases h
theorem bW1 (hf:FR w fr frI) {x:Operand} (h:N7 E H w fr (.sdata x) v ob fz):M3 E heap w frI n p (.sdata x) v ob fz:=by
 simp only[N7,j6,aG3] at h
 obtain ⟨a,h1,h⟩:=h
 obtain ⟨aI,a1,a2⟩:=o8 hf h1
 split at h
 ·cases h
  rw[a2.scv] at a1
  exact ⟨_,[],by simp[d9,a1],.pure (.mksc rfl)⟩
 ·rename_i o k j c
  split at h
  ·cases h
  rename_i hc
  cases h
  simp only[f9] at a2
  obtain ⟨q1,q2,u,rfl,q⟩:=a2
  refine ⟨_,[],by simp only[d9,a1,aI2];rw[aQ4 hc],.pure ?_⟩
  simp only[f9]
  exact ⟨q1,u,rfl,q⟩
 ·rename_i s o j
  split at h
  ·cases h
  rename_i hc
  rw[j9] at hc
  cases h
  simp only[f9] at a2
  rcases a2 with ⟨q1,⟨h0,_⟩|⟨_,u,rfl,q⟩⟩
  ·exact absurd h0 hc
  refine ⟨.pointer (some ⟨u,0,some 0⟩),[],?_,.pure ?_⟩
  ·simp only[d9,a1,aI2]
   rw[aQ4]
   simp only[cW5,j9]
   unfold A5
   omega
  ·simp only[f9]
   exact ⟨q1,u,rfl,q⟩
 ·cases h
theorem aN7 {z:List Value} {p:Value->Bool} (h:z.all p=true):∀ n,(rep z n).all p=true
 |0=>rfl
 |n+1=>by simp only[rep,dD1,aO3];exact ⟨h,aN7 h n⟩
theorem cV6 {z:List Value} (h:z ≠ []) {n:Nat} (hn:0<n):rep z n ≠ []:=by
 cases n with
 |zero=>exact absurd hn (dK8 0)
 |succ n=>cases z with
  |nil=>exact absurd rfl h
  |cons a r=>simp[rep]
theorem nP (hr:HR E H heap w) (hf:FR w fr frI) {op:M8} (h:j6 E.old fr H w.nx op=some (v,ob,fz)):∃ vI bs,d9 E frI ⟨heap,n,p⟩ op=some (vI,bs)/\kC heap w n v ob fz vI bs:=by
 cases op with
 |mov x=>exact cY2 hf h
 |pick c a b=>exact cH9 hf h
 |alloc t z=>exact bV2 h
 |box t x=>exact cX7 hf h
 |build z ps=>exact bV4 hf h
 |mkRow t e n z ps=>exact bW0 hf h
 |load g a=>exact cH6 hr hf h
 |nilChk x=>exact aZ4 hf h
 |bin op x y=>exact cX6 hf h
 |eqB g x y=>exact cX9 hf h
 |eqNil k g x y=>exact bV8 hf h
 |un op x=>exact dH1 hf h
 |convI k x=>exact bV5 hf h
 |b2s x=>exact cX5 hr hf h
 |mkSlice t e b z l c=>exact aC9 hf h
 |slcS x lo hi=>exact cI1 hf h
 |slc e x lo hi mx=>exact cY4 hf h
 |fldA o x=>exact cH1 hf h
 |idxS e x i=>exact cH4 hf h
 |idxA n e x i=>exact cH3 hf h
 |idxStr x i=>exact aZ3 hf h
 |idxV n e g x i=>exact cH5 hf h
 |ext x i=>exact cY0 hf h
 |mkFn f a b=>exact cH7 hf h
 |len t x=>exact cY1 hf h
 |mm g x y=>exact dH0 hf h
 |app t e b x y=>exact cX4 hr hf h
 |eqIf g l ts x y=>exact cH0 hf h
 |eqAgg g ps x y=>exact bV7 hf h
 |eqPtr g x y=>exact bV9 hr hf h
 |rangeS x=>exact aZ5 hf h
 |toUns x=>exact bW2 hr hf h
 |fromUns t n x=>exact aC8 hr hf h
 |sdata x=>exact bW1 hf h
 |_=>simp[j6] at h
end
end Go.Itp
