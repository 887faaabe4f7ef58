/- What is proved: the law KnitlogAsks returns true for every input.
   Texts: K33v, K33w, N44h, N44i, N44j, N44k, N44l, N44m, N44n, N44o, N44p, N44q, N44r, N44s, N44t, N44u, N44v, N44w, N44x, N44y, E44t, N44za, N44zb, N44zc, N44zd, N44ze, N44zf, N44zg, E44u, E44v, E44w, E44x, E44d, E44e, E44f, E44r, E44p, E44q, E44y.
-/
import Derived.Test.YtgohenjcanfolaaGreatDoorPart5
namespace Go.Proofs.YtgohenjcanfolaaGreatDoor
open Go Go.Itp
set_option maxRecDepth 100000
set_option maxHeartbeats 4000000
set_option linter.unusedSimpArgs false
set_option linter.unusedVariables false
theorem HW {z:Int} (h0: -1000<z) (h1:z<1000):(Lib.itoa z).length<=4:=by
 have hd:=K3 2 z.natAbs (by simpa using (by omega:z.natAbs<1000))
 rcases Int.lt_or_le z 0 with h|h
 ·have e:Lib.itoa z=45::Lib.decDigits z.natAbs:=by unfold Lib.itoa;rw[aO9 h]
  rw[e];simp;omega
 ·obtain ⟨u,rfl⟩:=cZ4 h
  rw[Lib.itoa_nonneg]
  simp only[Int.natAbs_natCast] at hd
  omega
theorem BB:∀ op,op<10->(C5 op).length<=5:=by decide
theorem WQ {i:E5} (h:K5 i):(r8 i).length<=40:=by
 have hb:=h.bounds
 have h1:∀ z:Int,-101<=z/\z<=101->(Lib.itoa z).length<=4:=fun z hz=>HW (by omega) (by omega)
 have h2:∀ w ∈ C5 i.op::(q8 i.op).map (U8 i),w.length<=5:=fun w hw=>by
  rcases bX5.1 hw with rfl|hw
  ·exact BB i.op h.op_lt.2
  ·obtain ⟨c,_,rfl⟩:=dK4.1 hw
   unfold U8
   split
   ·split<;>simp
   split
   ·have:=h1 i.pos (by unfold L4 at hb;omega);unfold aW;simp;omega
   split
   ·have:=h1 i.to (by unfold L4 at hb;omega);unfold aW;simp;omega
   split
   ·have:=h1 i.car (by omega);omega
   ·have:=h1 i.rack (by omega);omega
 have h3:=AN 32 5 _ h2
 have h4:=dN h.op_lt.2
 have h5:(C5 i.op::(q8 i.op).map (U8 i)).length<=5:=by rw[bK2,cZ0];omega
 unfold r8
 have:=dC6 6 h5
 omega
def PB (wd:List UInt8):Nat->Nat
 |0=>0
 |k+1=>if 0<k/\C5 k=wd then k else PB wd k
theorem bM8 (wd:List UInt8):∀ k,PB wd k<k+1
 |0=>by unfold PB;omega
 |k+1=>by
  have:=bM8 wd k
  unfold PB
  split<;>omega
theorem cT6 (wd:List UInt8):PB wd 10<10:=by
 have:=bM8 wd 9
 show (if 0<9/\C5 9=wd then 9 else PB wd 9)<10
 split<;>omega
theorem bM9:∀ op,op<10->0<op->PB (C5 op) 10=op:=by decide
theorem V4 {i0:E5} (h:K5 i0):(v7 32 (r8 i0))[0]! =C5 i0.op/\
  (3<=i0.op/\i0.op<=6->4<=(v7 32 (r8 i0)).length/\(v7 32 (r8 i0))[1]! =(if i0.right=true then [43] else [45])/\(v7 32 (r8 i0))[2]! =aW i0.bed i0.pos)/\
  (3<=i0.op/\i0.op<=5->(v7 32 (r8 i0))[3]! =Lib.itoa i0.car)/\
  (i0.op=6->5<=(v7 32 (r8 i0)).length/\(v7 32 (r8 i0))[3]! =aW (1 - i0.bed) i0.to/\(v7 32 (r8 i0))[4]! =Lib.itoa i0.car)/\
  (i0.op=7->3<=(v7 32 (r8 i0)).length/\(v7 32 (r8 i0))[1]! =aW i0.bed i0.pos/\(v7 32 (r8 i0))[2]! =aW (1 - i0.bed) i0.to)/\
  (i0.op=9->2<=(v7 32 (r8 i0)).length/\(v7 32 (r8 i0))[1]! =aW i0.bed i0.pos)/\
  (i0.op=8->2<=(v7 32 (r8 i0)).length/\(v7 32 (r8 i0))[1]! =Lib.itoa i0.rack)/\
  (i0.op<=2->2<=(v7 32 (r8 i0)).length/\(v7 32 (r8 i0))[1]! =Lib.itoa i0.car):=by
 rw[eO]
 have h7:=h.op_lt
 clear h
 obtain ⟨op,right,bed,pos,to,car,rack⟩:=i0
 simp only at h7 ⊢
 rcases (by omega:op=1\/op=2\/op=3\/op=4\/op=5\/op=6\/op=7\/op=8\/op=9) with rfl|rfl|rfl|rfl|rfl|rfl|rfl|rfl|rfl
 all_goals
  refine ⟨rfl,fun h=>?_,fun h=>?_,fun h=>?_,fun h=>?_,fun h=>?_,fun h=>?_,fun h=>?_⟩
  all_goals first|(exfalso;omega)|rfl|exact ⟨by simp[q8],rfl⟩|exact ⟨by simp[q8],rfl,rfl⟩
theorem R4 {i:E5} (h:K5 i):(¬ (3<=i.op/\i.op<=6)->i.right=false)/\(i.op<=2\/i.op=8->i.bed=0/\i.pos=0)/\(i.op ≠ 6/\i.op ≠ 7->i.to=0)/\(7<=i.op->i.car=0)/\(i.op ≠ 8->i.rack=0)/\i.bed<=1/\ -100<=i.pos/\i.pos<=100/\ -100<=i.to/\i.to<=100/\0<=i.car/\i.car<=6/\ -8<=i.rack/\i.rack<=8:=by
 unfold K5 L4 at h
 refine ⟨fun h2=>?_,by omega,by omega,by omega,by omega,by omega,by omega,by omega,by omega,by omega,by omega,by omega,by omega,by omega⟩
 rcases h with h|h|h|h|h|h
 ·exact h.2.2.1
 ·exfalso;omega
 ·exfalso;omega
 ·exact h.2.1
 ·exact h.2.1
 ·exact h.2.1
section
variable (w:World) (n:Nat)
theorem bP9 {C:C8} (hC:C.E=EN w (n+4)) (h0:C.w0.nx=0) (s:List UInt8) (i:E5) (hi:∀ i0,K5 i0->s=r8 i0->i=i0) {fr:D0} (hg:fr= [(0,r7 s),(2,.ptr 0 0),(5,.ptr 1 0)]\/∃ ws a,fr=YH s ws a [(112,.sc (.bool false))]):
  gC C UT [] fr (ER i) (fC C R1.res (VB (W3 s)) ⟨[],0,0⟩):=by
 have hf:=VE w (n+2) i
 by_cases hv:eJ i=true
 ·have hl:=LC w n i (K4.1 hv)
  rw[aO9 hv] at hf
  unfold L2 at hf hl
  by_cases ht:r8 i=s
  ·have hr:W3 s=some i:=by rw[<- ht];exact dO (K4.1 hv)
   rw[hr]
   rcases hg with rfl|⟨ws,a,rfl⟩
   ·simp (disch:=try exact z0z) only[WA,simprocAttr,UT,aC,aB,aA,Z9,R1,AC.r]
    refine cF hC hf ?_
    simp (disch:=try exact z0z) only[WA,simprocAttr]
    refine cF hC hl ?_
    simp (disch:=try exact z0z) only[WA,simprocAttr,ht]
    exact d7 rfl h0 rfl
   ·simp (disch:=try exact z0z) only[WA,simprocAttr,UT,aC,aB,aA,Z9,R1,AC.r]
    refine cF hC hf ?_
    simp (disch:=try exact z0z) only[WA,simprocAttr]
    refine cF hC hl ?_
    simp (disch:=try exact z0z) only[WA,simprocAttr,ht]
    exact d7 rfl h0 rfl
  ·rw[aD fun i0 h1 h2=>ht (by rw[hi i0 h1 h2.symm];exact h2)]
   rcases hg with rfl|⟨ws,a,rfl⟩
   ·simp (disch:=try exact z0z) only[WA,simprocAttr,UT,aC,aB,aA,Z9,R1,AC.r]
    refine cF hC hf ?_
    simp (disch:=try exact z0z) only[WA,simprocAttr]
    refine cF hC hl ?_
    simp (disch:=try exact z0z) only[WA,simprocAttr,ht,T9]
    exact d7 rfl h0 rfl
   ·simp (disch:=try exact z0z) only[WA,simprocAttr,UT,aC,aB,aA,Z9,R1,AC.r]
    refine cF hC hf ?_
    simp (disch:=try exact z0z) only[WA,simprocAttr]
    refine cF hC hl ?_
    simp (disch:=try exact z0z) only[WA,simprocAttr,ht,T9]
    exact d7 rfl h0 rfl
 ·rw[aD fun i0 h1 h2=>hv (by rw[hi i0 h1 h2.symm];exact K4.2 h1)]
  rw[aQ4 hv] at hf
  unfold L2 at hf
  rcases hg with rfl|⟨ws,a,rfl⟩
  ·simp (disch:=try exact z0z) only[WA,simprocAttr,UT,aC,aB,aA,Z9,R1,AC.r]
   refine cF hC hf ?_
   simp (disch:=try exact z0z) only[WA,simprocAttr]
   exact d7 rfl h0 rfl
  ·simp (disch:=try exact z0z) only[WA,simprocAttr,UT,aC,aB,aA,Z9,R1,AC.r]
   refine cF hC hf ?_
   simp (disch:=try exact z0z) only[WA,simprocAttr]
   exact d7 rfl h0 rfl
abbrev RdP (C:C8) (s:List UInt8):B9:=fC C R1.res (VB (W3 s)) ⟨[],0,0⟩
theorem cM9 {C:C8} (hC:C.E=EN w (n+4)) (h0:C.w0.nx=0) (s:List UInt8) (ws:List (List UInt8)) (h6:ws=v7 32 s) (h9:ws.length<=1000) (hx:∀ x ∈ ws,x.length<=1000000) (op:Nat) (h7:op<10) (r:Bool) (b:Nat) (p t:Int) (a:Nat) (ha:a<=4)
  (hi:∀ i0,K5 i0->s=r8 i0->op=i0.op/\r=i0.right/\b=i0.bed/\p=i0.pos/\t=i0.to/\a=(if i0.op=6 then 4 else if 3<=i0.op/\i0.op<=5 then 3 else if i0.op=7 then 3 else if i0.op=9 then 2 else 1)) {e:D0} (he:rdE 86 e):
  gC C aC [] (YH s ws a e) (ER ⟨op,r,b,p,t,0,0⟩) (RdP C s):=by
 change gC C (.seq (AC.l aC) UT) _ _ _ _
 refine dG4 w (n+1) hC he s ws ⟨op,r,b,p,t,0,0⟩ a h9 hx (by omega) h7 (fun hc z hz=>?_) (fun hc=>?_)
 ·by_cases h8:op=8
  ·rw[aO9 h8]
   refine bP9 w n hC h0 s _ (fun i0 h1 h2=>?_) (.inl rfl)
   obtain ⟨e1,e2,e3,e4,e5,e6⟩:=hi i0 h1 h2
   obtain ⟨f0,f1,f2,f3,f4,f5,f6,f7⟩:=V4 h1
   obtain ⟨g0,g1,g2,g3,g4,g5⟩:=R4 h1
   have hj:i0.op=8:=by omega
   have hm:a=1:=by rw[e6,hj];rfl
   have:=hz i0.rack (by omega) (by omega) (by rw[hm,h6,h2];exact (f6 hj).2)
   exact E5.ext' e1 e2 e3 e4 e5 (g3 (by omega)).symm this
  ·rw[aQ4 h8]
   refine bP9 w n hC h0 s _ (fun i0 h1 h2=>?_) (.inl rfl)
   obtain ⟨e1,e2,e3,e4,e5,e6⟩:=hi i0 h1 h2
   obtain ⟨f0,f1,f2,f3,f4,f5,f6,f7⟩:=V4 h1
   obtain ⟨g0,g1,g2,g3,g4,g5⟩:=R4 h1
   simp only at hc
   have:=hz i0.car (by omega) (by omega) (by
    rw[h6,h2]
    by_cases k6:i0.op=6
    ·have:a=4:=by rw[e6,aO9 k6]
     rw[this];exact (f3 k6).2.2
    by_cases k3:3<=i0.op/\i0.op<=5
    ·have:a=3:=by rw[e6,aQ4 k6,aO9 k3]
     rw[this];exact f2 k3
    have k1:i0.op<=2:=by omega
    have:a=1:=by rw[e6,aQ4 k6,aQ4 k3,aQ4 (by omega),aQ4 (by omega)]
    rw[this];exact (f7 k1).2)
   exact E5.ext' e1 e2 e3 e4 e5 this (g4 (by omega)).symm
 ·refine bP9 w n hC h0 s _ (fun i0 h1 h2=>?_) (.inr ⟨_,_,rfl⟩)
  obtain ⟨e1,e2,e3,e4,e5,e6⟩:=hi i0 h1 h2
  obtain ⟨f0,f1,f2,f3,f4,f5,f6,f7⟩:=V4 h1
  obtain ⟨g0,g1,g2,g3,g4,g5⟩:=R4 h1
  simp only at hc
  have hk:i0.op=7\/i0.op=9:=by
   by_cases hk:i0.op=7\/i0.op=9
   ·exact hk
   exfalso
   refine hc ⟨by omega,by omega,?_⟩
   rw[h6,h2]
   have hh:=h1.op_lt
   by_cases k6:i0.op=6
   ·have:a=4:=by rw[e6,aO9 k6]
    have:=(f3 k6).1;omega
   by_cases k3:3<=i0.op/\i0.op<=5
   ·have:a=3:=by rw[e6,aQ4 k6,aO9 k3]
    have:=(f1 (by omega)).1;omega
   have:a=1:=by rw[e6,aQ4 k6,aQ4 k3,aQ4 (by omega),aQ4 (by omega)]
   by_cases k8:i0.op=8
   ·have:=(f6 k8).1;omega
   ·have:=(f7 (by omega)).1;omega
  exact E5.ext' e1 e2 e3 e4 e5 (g3 (by omega)).symm (g4 (by omega)).symm
theorem cM8 {C:C8} (hC:C.E=EN w (n+4)) (h0:C.w0.nx=0) (s:List UInt8) (ws:List (List UInt8)) (h6:ws=v7 32 s) (h9:ws.length<=1000) (hx:∀ x ∈ ws,x.length<=1000000) (op:Nat) (h7:op<10) (r:Bool) (b:Nat) (p:Int) (a:Nat) (ha:a<=3)
  (hi:∀ i0,K5 i0->s=r8 i0->op=i0.op/\r=i0.right/\b=i0.bed/\p=i0.pos/\a=(if 3<=i0.op/\i0.op<=6 then 3 else if i0.op=7\/i0.op=9 then 2 else 1)) {e:D0} (he:rdE 59 e):
  gC C aB [] (YH s ws a e) (ER ⟨op,r,b,p,0,0,0⟩) (RdP C s):=by
 change gC C (.seq (AC.l aB) aC) _ _ _ _
 refine dG3 w (n+1) hC he s ws ⟨op,r,b,p,0,0,0⟩ a h9 hx (by omega) h7 (fun hc z hz=>?_) (fun hc=>?_)
 ·refine cM9 w n hC h0 s ws h6 h9 hx op h7 r b p z (a+1) (by omega) (fun i0 h1 h2=>?_) (.inl rfl)
  obtain ⟨e1,e2,e3,e4,e6⟩:=hi i0 h1 h2
  obtain ⟨f0,f1,f2,f3,f4,f5,f6,f7⟩:=V4 h1
  obtain ⟨g0,g1,g2,g3,g4,g5⟩:=R4 h1
  simp only at hc
  refine ⟨e1,e2,e3,e4,hz (1 - i0.bed) i0.to (by omega) (by omega) (by omega) ?_,?_⟩
  ·rw[h6,h2]
   by_cases k6:i0.op=6
   ·have:a=3:=by rw[e6,aO9 (by omega)]
    rw[this];exact (f3 k6).2.1
   ·have:a=2:=by rw[e6,aQ4 (by omega),aO9 (by omega)]
    rw[this];exact (f4 (by omega)).2.2
  ·split at e6<;>(repeat' split at e6)<;>(repeat' split)<;>omega
 ·refine cM9 w n hC h0 s ws h6 h9 hx op h7 r b p 0 a (by omega) (fun i0 h1 h2=>?_) (.inr rfl)
  obtain ⟨e1,e2,e3,e4,e6⟩:=hi i0 h1 h2
  obtain ⟨f0,f1,f2,f3,f4,f5,f6,f7⟩:=V4 h1
  obtain ⟨g0,g1,g2,g3,g4,g5⟩:=R4 h1
  simp only at hc
  have hh:=h1.op_lt
  have hn:i0.op ≠ 6/\i0.op ≠ 7:=by
   refine ⟨fun k=>hc ⟨by omega,?_⟩,fun k=>hc ⟨by omega,?_⟩⟩
   ·have:a=3:=by rw[e6,aO9 (by omega)]
    rw[h6,h2]
    have:=(f3 k).1;omega
   ·have:a=2:=by rw[e6,aQ4 (by omega),aO9 (by omega)]
    rw[h6,h2]
    have:=(f4 k).1;omega
  refine ⟨e1,e2,e3,e4,(g2 hn).symm,?_⟩
  split at e6<;>(repeat' split at e6)<;>(repeat' split)<;>omega
theorem cM7 {C:C8} (hC:C.E=EN w (n+4)) (h0:C.w0.nx=0) (s:List UInt8) (ws:List (List UInt8)) (h6:ws=v7 32 s) (h9:ws.length<=1000) (hx:∀ x ∈ ws,x.length<=1000000) (op:Nat) (h7:op<10) (r:Bool) (a:Nat) (ha:a<=2)
  (hi:∀ i0,K5 i0->s=r8 i0->op=i0.op/\r=i0.right/\a=(if 3<=i0.op/\i0.op<=6 then 2 else 1)) {e:D0} (he:rdE 40 e):
  gC C aA [] (YH s ws a e) (ER ⟨op,r,0,0,0,0,0⟩) (RdP C s):=by
 change gC C (.seq (AC.l aA) aB) _ _ _ _
 refine dG2 w (n+1) hC he s ws ⟨op,r,0,0,0,0,0⟩ a h9 hx (by omega) h7 (fun hc b z hz=>?_) (fun hc=>?_)
 ·refine cM8 w n hC h0 s ws h6 h9 hx op h7 r b z (a+1) (by omega) (fun i0 h1 h2=>?_) (.inl rfl)
  obtain ⟨e1,e2,e6⟩:=hi i0 h1 h2
  obtain ⟨f0,f1,f2,f3,f4,f5,f6,f7⟩:=V4 h1
  obtain ⟨g0,g1,g2,g3,g4,g5⟩:=R4 h1
  have hh:=h1.op_lt
  simp only at hc
  obtain ⟨z1,z2⟩:=hz i0.bed i0.pos (by omega) (by omega) (by omega) (by
   rw[h6,h2]
   by_cases k6:3<=i0.op/\i0.op<=6
   ·have:a=2:=by rw[e6,aO9 (by omega)]
    rw[this];exact (f1 k6).2.2
   have:a=1:=by rw[e6,aQ4 (by omega)]
   rw[this]
   by_cases k7:i0.op=7
   ·exact (f4 k7).2.1
   ·exact (f5 (by omega)).2)
  refine ⟨e1,e2,z1,z2,?_⟩
  split at e6<;>(repeat' split)<;>omega
 ·refine cM8 w n hC h0 s ws h6 h9 hx op h7 r 0 0 a (by omega) (fun i0 h1 h2=>?_) (.inr rfl)
  obtain ⟨e1,e2,e6⟩:=hi i0 h1 h2
  obtain ⟨f0,f1,f2,f3,f4,f5,f6,f7⟩:=V4 h1
  obtain ⟨g0,g1,g2,g3,g4,g5⟩:=R4 h1
  have hh:=h1.op_lt
  simp only at hc
  have k:i0.op<=2\/i0.op=8:=by
   by_cases k:i0.op<=2\/i0.op=8
   ·exact k
   exfalso
   refine hc ⟨by omega,by omega,?_⟩
   rw[h6,h2]
   by_cases k6:3<=i0.op/\i0.op<=6
   ·have:a=2:=by rw[e6,aO9 (by omega)]
    have:=(f1 k6).1;omega
   have:a=1:=by rw[e6,aQ4 (by omega)]
   by_cases k7:i0.op=7
   ·have:=(f4 k7).1;omega
   ·have:=(f5 (by omega)).1;omega
  refine ⟨e1,e2,(g1 k).1.symm,(g1 k).2.symm,?_⟩
  split at e6<;>(repeat' split)<;>omega
theorem dG5 {C:C8} (hC:C.E=EN w (n+4)) (h0:C.w0.nx=0) (s:List UInt8) (ws:List (List UInt8)) (h6:ws=v7 32 s) (h9:ws.length<=1000) (hx:∀ x ∈ ws,x.length<=1000000) (op:Nat) (h7:op<10)
  (hi:∀ i0,K5 i0->s=r8 i0->op=i0.op):
  gC C Z9 [] (YH s ws 1 []) (ER ⟨op,false,0,0,0,0,0⟩) (RdP C s):=by
 change gC C (.seq (AC.l Z9) aA) _ _ _ _
 refine dG1 s ws ⟨op,false,0,0,0,0,0⟩ h9 h7 (fun hc=>?_) (fun hc=>?_)
 ·refine cM7 w n hC h0 s ws h6 h9 hx op h7 _ 2 (by omega) (fun i0 h1 h2=>?_) (.inl rfl)
  have e1:=hi i0 h1 h2
  obtain ⟨f0,f1,f2,f3,f4,f5,f6,f7⟩:=V4 h1
  simp only at hc
  refine ⟨e1,?_,by rw[aO9 (by omega)]⟩
  rw[h6,h2,(f1 (by omega)).2.1]
  cases i0.right<;>rfl
 ·refine cM7 w n hC h0 s ws h6 h9 hx op h7 _ 1 (by omega) (fun i0 h1 h2=>?_) (.inr rfl)
  have e1:=hi i0 h1 h2
  obtain ⟨f0,f1,f2,f3,f4,f5,f6,f7⟩:=V4 h1
  simp only at hc
  have k:¬ (3<=i0.op/\i0.op<=6):=fun k=>hc ⟨by omega,by omega,by rw[h6,h2];have:=(f1 k).1;omega⟩
  exact ⟨e1,((R4 h1).1 k).symm,by rw[aQ4 k]⟩
end
section
variable (w:World) (n:Nat)
theorem cE2 {C:C8} (hC:C.E=EN w (n+4)) (h0:C.w0.nx=0) (s:List UInt8) (ws:List (List UInt8)) (wd:List UInt8) (hj:0<ws.length) (hm:ws.length<=1000) (h3:ws[0]! =wd) (hp:wd.length<=1000000) {K:List KF} {P:B9}
  (h4:∀ fr,fr= [(0,r7 s),(2,.ptr 0 0),(4,xH 2 ws),(5,.ptr 1 0),(6,.sc (.int .u8 10))]\/fr= [(0,r7 s),(2,.ptr 0 0),(4,xH 2 ws),(5,.ptr 1 0),(6,.sc (.int .u8 10)),(17,.sc (.bool false))]->gK C K (.exit 0) fr (ER ⟨PB wd 10,false,0,0,0,0,0⟩) P) {fr0:D0} {st0:n9}
  (hb:K7 C fr0 st0 [(0,r7 s),(2,.ptr 0 0),(4,xH 2 ws),(5,.ptr 1 0),(6,.sc (.int .u8 1))] (ER ⟨PB wd 1,false,0,0,0,0,0⟩)):
  gL C [0,2,4,5,6] yU K fr0 st0 P:=by
 have hd:C.E.rounds=B6:=by rw[hC,k9]
 have hq:(ws.map sD).length=ws.length:=by rw[cZ0]
 have t1:ws[0]! =wd:=h3
 refine r5 (fun m fr st=>∃ k:Nat,1<=k/\k<=10/\m=10 - k/\fr= [(0,r7 s),(2,.ptr 0 0),(4,xH 2 ws),(5,.ptr 1 0),(6,.sc (.int .u8 k))]/\st=ER ⟨PB wd k,false,0,0,0,0,0⟩) 9 ?_ ⟨_,_,hb,1,by omega,by omega,by omega,rfl,rfl⟩ ?_
 ·rw[hd];unfold B6;omega
 rintro m fr st ⟨k,hr,ht,rfl,rfl,rfl⟩
 by_cases hk:k=10
 ·subst hk
  have h4:=fun fr h5=>h4 fr h5
  simp (disch:=try exact z0z) only[WA,simprocAttr,yU]
  all_goals try omega
  exact h4 _ (.inr rfl)
 ·have hn:=(VG w (n+3) k (by omega)).of hC rfl
  have hu:=BB k (by omega)
  have h8:IntKind.u8.wrap ((k:Int)+1)=((k+1:Nat):Int):=by rw[nR _ (by omega) (by omega)];omega
  have h9:∀ (o:Nat) (fr:D0) (st:n9),PB wd (k+1)=o->K7 C fr st [(0,r7 s),(2,.ptr 0 0),(4,xH 2 ws),(5,.ptr 1 0),(6,.sc (.int .u8 (k+1:Nat)))] (ER ⟨o,false,0,0,0,0,0⟩)->
    ∃ m' fr' st',m'<10 - k/\K7 C fr st fr' st'/\∃ k:Nat,1<=k/\k<=10/\m'=10 - k/\fr'= [(0,r7 s),(2,.ptr 0 0),(4,xH 2 ws),(5,.ptr 1 0),(6,.sc (.int .u8 k))]/\st'=ER ⟨PB wd k,false,0,0,0,0,0⟩:=fun o fr st ho hw=>by
   subst ho
   exact ⟨10 - (k+1),_,_,by omega,hw,k+1,by omega,by omega,rfl,rfl,rfl⟩
  by_cases he:C5 k=wd
  ·have ho:PB wd (k+1)=k:=by show (if 0<k/\C5 k=wd then k else PB wd k)=k;rw[aO9 ⟨by omega,he⟩]
   simp (disch:=try exact z0z) only[WA,simprocAttr,yU]
   all_goals try omega
   refine O7 (hn _ rfl) ?_
   simp (disch:=try exact z0z) only[WA,simprocAttr,P3,t1,he,h8]
   all_goals try omega
   refine h9 k _ _ ho (o9 [(1,1),(0,0)] 2 h0 rfl rfl rfl rfl)
  ·have ho:PB wd (k+1)=PB wd k:=by show (if 0<k/\C5 k=wd then k else PB wd k)=_;rw[aQ4 (fun h=>he h.2)]
   generalize C5 k=nm at*
   simp (disch:=try exact z0z) only[WA,simprocAttr,yU]
   all_goals try omega
   refine O7 (hn _ rfl) ?_
   simp (disch:=try exact z0z) only[WA,simprocAttr,P3,t1,he,T9,h8]
   all_goals try omega
   refine h9 _ _ _ ho (o9 [(1,1),(0,0)] 2 h0 rfl rfl rfl rfl)
theorem cE8 (s:List UInt8) (hs:s.length<=1000000):m0 (EN w (n+5)) 102 [r7 s] (VB (W3 s)) ⟨[],0,0⟩:=by
 refine dX rfl rfl (fun _ _=>rfl) (cJ5 rfl) (jC w) (by cases W3 s<;>rfl) fun C hC h0=>?_
 by_cases hl:s.length<=40
 case neg=>
  rw[aD fun i0 h1 h2=>by have:=WQ h1;rw[h2] at this;omega]
  have h6:=B1 s
  have hf:(40:Int)<s.length:=by omega
  simp (disch:=try exact z0z) only[WA,simprocAttr,R1,h6]
  all_goals try omega
  exact d7 rfl h0 rfl
 have hg:m0 (EN w (n+4)) 51 [r7 s,.sc (.int .u8 32)] (xH 2 (v7 32 s)) ⟨[],0,0⟩:=bF2 w (n+3) s 32 hs
 obtain ⟨hv,hh⟩:=gZ (c:=32) s.length (s:=s) (aQ5 _)
 have ha:0<(v7 32 s).length:=dL2.2 (sJ 32 s)
 obtain ⟨T,hT⟩:∃ T,T=Z9:=⟨_,rfl⟩
 have hc:R1.code= .seq (AC.l R1.code) (.seq (AC.l (AC.r R1.code)) (.seq (AC.l (AC.r (AC.r R1.code))) (.seq (AC.l (AC.r (AC.r (AC.r R1.code)))) (.seq (AC.l (AC.r (AC.r (AC.r (AC.r R1.code))))) (.seq (AC.l (AC.r (AC.r (AC.r (AC.r (AC.r R1.code)))))) T))))):=by rw[hT];rfl
 rw[hc]
 have hx:∀ x ∈ v7 32 s,x.length<=1000000:=fun x hx=>by have:=hh x hx;omega
 have h7:=dG5 w n hC h0 s (v7 32 s) rfl (by omega) hx (PB (v7 32 s)[0]! 10) (cT6 _) (fun i0 h1 h2=>by
  rw[h2,(V4 h1).1]
  exact bM9 _ h1.op_lt.2 h1.op_lt.1)
 rw[<- hT] at h7
 have h3:(v7 32 s)[0]!.length<=1000000:=by
  rw[bA7 _ 0 ha]
  exact hx _ (cN3 _)
 generalize v7 32 s=ws at*
 generalize hi:ws[0]! =wd at*
 have h6:=B1 s
 have hf:¬ ((40:Int)<s.length):=by omega
 simp (disch:=try exact z0z) only[WA,simprocAttr,AC.l,AC.r,R1,h6]
 all_goals try omega
 refine cN hC hg ?_
 simp (disch:=try exact z0z) only[WA,simprocAttr]
 refine cE2 w n hC h0 s ws wd ha (by omega) hi h3 (fun fr h5=>?_) (o9 [(1,1),(0,0)] 2 h0 rfl rfl rfl rfl)
 rcases h5 with rfl|rfl
 ·simp (disch:=try exact z0z) only[WA,simprocAttr]
  exact h7
 ·simp (disch:=try exact z0z) only[WA,simprocAttr]
  exact h7
end
set_option maxHeartbeats 1000000
instance:Inhabited E5:=⟨Q7⟩
def H4 (L:List E5):List D:=L.flatMap fun a=>(EZ a).map D.sc
theorem G7 (L:List E5):(H4 L).length=L.length*7:=by
 induction L with
 |nil=>rfl
 |cons p L ih=>
  have e:H4 (p::L)=(EZ p).map D.sc++H4 L:=by simp[H4]
  rw[e,bA4,ih];simp[EZ];omega
theorem SY (L:List E5) (k:Nat) (hk:k<L.length):C0 (H4 L) (k*7) (some 7)=some (L2 L[k]!):=by
 have:=iQ (fun p:E5=>(EZ p).map D.sc) 7 L (fun _=>rfl) (by decide) k hk
 unfold H4
 rw[this]
 rfl
theorem Z4 (acc:List E5) (i:E5):H4 (acc++ [i])=H4 acc++ [.sc (.int .u8 i.op),.sc (.bool i.right),.sc (.int .u8 i.bed),.sc (.int .i64 i.pos),.sc (.int .i64 i.to),.sc (.int .i64 i.car),.sc (.int .i64 i.rack)]:=by
 simp[H4,EZ]
theorem z6 (nx t:Nat) (a b c d e f g:Value):T8 nx t 7 1 [.int .u8 0,.bool false,.int .u8 0,.int .i64 0,.int .i64 0,.int .i64 0,.int .i64 0] [(0,7,.agg [.sc a,.sc b,.sc c,.sc d,.sc e,.sc f,.sc g])]=some (.ref nx 0 1 1,some (.row t 7 false false [.sc a,.sc b,.sc c,.sc d,.sc e,.sc f,.sc g]),[]):=rfl
theorem VZ {H:E9} {o t n:Nat} {z:Bool} {l:List D} (h:j7 H o=some (.gro t 7 z l)) (hl:l.length=n*7):D1 H (.gr 2 o n)=some (.sl 2 n l):=by
 simp only[D1,dS,h]
 rw[aO9 ⟨hl,by decide,by decide,by decide⟩]
 rfl
theorem lC (L M:List E5):H4 (L++M)=H4 L++H4 M:=by simp[H4]
instance:DecidableEq E5:=fun x y=>decidable_of_iff (x.op=y.op/\x.right=y.right/\x.bed=y.bed/\x.pos=y.pos/\x.to=y.to/\x.car=y.car/\x.rack=y.rack) ⟨fun ⟨h1,h2,h3,h4,h5,h6,h7⟩=>E5.ext' h1 h2 h3 h4 h5 h6 h7,fun h=>by subst h;exact ⟨rfl,rfl,rfl,rfl,rfl,rfl,rfl⟩⟩
abbrev iN (z:Int):V:= .sc (.int .i64 z)
abbrev jS (s:Nat) (L:List E5):V:= .sl s L.length (H4 L)
theorem aS3 (g:Bool) (x y:E5):kO g [(0,0),(1,2),(2,0),(3,0),(4,0),(5,0),(6,0)] (L2 x) (L2 y)=some (.sc (.bool (aU4 g (decide (x=y))))):=by
 obtain ⟨a1,a2,a3,a4,a5,a6,a7⟩:=x
 obtain ⟨b1,b2,b3,b4,b5,b6,b7⟩:=y
 unfold L2
 rw[iS]
 have e:X7 [(0,0),(1,2),(2,0),(3,0),(4,0),(5,0),(6,0)] [V.sc (.int .u8 a1),.sc (.bool a2),.sc (.int .u8 a3),.sc (.int .i64 a4),.sc (.int .i64 a5),.sc (.int .i64 a6),.sc (.int .i64 a7)] [V.sc (.int .u8 b1),.sc (.bool b2),.sc (.int .u8 b3),.sc (.int .i64 b4),.sc (.int .i64 b5),.sc (.int .i64 b6),.sc (.int .i64 b7)]=
   some (decide ((a1:Int)=b1) && ((a2==b2) && (decide ((a3:Int)=b3) && (decide (a4=b4) && (decide (a5=b5) && (decide (a6=b6) && decide (a7=b7))))))):=by
  simp only[aU,cE,eE,cD,mK,dJ7,E1,aI2]
 rw[e]
 simp only[aX8]
 congr 4
 rw[dM5]
 simp only[aO3,beq_iff_eq,cT5,E5.mk.injEq]
 constructor
 ·rintro ⟨h1,h2,h3,h4⟩;exact ⟨by omega,h2,by omega,h4⟩
 ·rintro ⟨h1,h2,h3,h4⟩;exact ⟨by omega,h2,by omega,h4⟩
theorem oX {a l:List E5} (h:a.length=l.length) (ha:∀ j,j<l.length->a[j]! =l[j]!):a=l:=by
 refine List.ext_getElem h fun i h1 h2=>?_
 have:=ha i h2
 rwa [bA7 a i h1,bA7 l i h2] at this
def cmn:List E5->List E5->Nat
 |a::A,b::B=>if a=b then cmn A B+1 else 0
 |_,_=>0
section
variable (w:World) (n:Nat)
end
end Go.Proofs.YtgohenjcanfolaaGreatDoor
namespace Go.Proofs.YtgohenjcanfolaaGreatDoor
open Go Go.Itp
set_option maxRecDepth 100000
set_option maxHeartbeats 1000000
set_option linter.unusedSimpArgs false
set_option linter.unusedVariables false
def cK5 (A:List E5):Nat->Nat
 |0=>0
 |n+1=>if A[n]! =A[n+1]! then cK5 A n else n+1
def cL7 (A B:List E5):Option Nat:=if A.length=B.length+1/\A.drop (cmn A B+1)=B.drop (cmn A B) then some (cK5 A (cmn A B)) else none
section
variable (w:World) (n:Nat)
end
section
variable (w:World) (n:Nat)
end
section
variable (w:World) (n:Nat)
end
theorem aJ6 (L:List E5):Q1 (H4 L)=true:=by
 simp only[Q1,bB3]
 intro d hd
 simp only[H4,dL7,dK4] at hd
 obtain ⟨a,_,c,hc,rfl⟩:=hd
 simp[EZ] at hc
 rcases hc with rfl|rfl|rfl|rfl|rfl|rfl|rfl<;>rfl
theorem ZL {C:C8} {st:n9} {v:V} {s n:Nat} {l:List D} (hs:D1 st.own v=some (.sl s n l)) (h1:D4 st.ro st.own (fA v)=true) (hk:s ≠ 1\/n ≠ 0) (h0:C.w0.nx=0) (h2:st.ro=0):K7 C [(0,v)] st [(0,.sl 3 n l)] ⟨[],0,0⟩:=by
 refine (uZ (t:=0) (v:=v) rfl hs h1).trans ?_
 exact (gY (t:=0) (v:= .sl s n l) (v':= .sl 3 n l) rfl (VQ hk)).trans (o9 [] 0 h0 h2 rfl rfl rfl)
theorem nG {n:Nat} {l:List D}:nT [] (.sl 3 n l):=uH (by simp only[Cl];rfl)
section
variable (w:World) (n:Nat)
end
set_option maxHeartbeats 2000000
def dM6 (P D:List E5) (N:Nat) (K1 K2:Option Nat):Nat × Int × Int:=
 if P=D then (0,0,0) else if N=D.length then (1,N,0) else match K1 with
 |some k=>(2,k,0)
 |none=>match K2 with
  |some k=>(3,k,0)
  |none=>if P.length=D.length/\P.drop (N+1)=D.drop (N+1) then (4,N,0) else (5,N,0)
noncomputable def dR5 (P D:List E5):Nat × Int × Int:=
 if 2000<P.length\/2000<D.length then (0,0,4) else if ¬ ((P++D).all eJ=true) then (0,0,8) else dM6 P D (cmn P D) (cL7 P D) (cL7 D P)
section
variable (w:World) (n:Nat)
variable {st:n9} {a b c t e t' e' t2 e2:Nat} {P D:List E5} {N:Nat}
end
section
variable (w:World) (n:Nat)
end
section
variable (w:World) (n:Nat)
end
set_option maxHeartbeats 1000000
def xF (k:Nat) (r:Bool × List u6):List D:= [.sc (.bool r.1),.sl k r.2.length (I5 r.2)]
def C3 (k:Nat) (R:List (Bool × List u6)):List D:=R.flatMap (xF k)
theorem D9 (k:Nat) (R:List (Bool × List u6)):(C3 k R).length=R.length*2:=by
 induction R with
 |nil=>rfl
 |cons r R ih=>
  have e:C3 k (r::R)=xF k r++C3 k R:=by simp[C3]
  rw[e,bA4,ih]
  simp only[xF,bK2,dA2]
  omega
theorem aH (k:Nat) (R:List (Bool × List u6)) (j:Nat) (hj:j<R.length):C0 (C3 k R) (j*2) (some 2)=some (.agg [.sc (.bool R[j]!.1),.sl k R[j]!.2.length (I5 R[j]!.2)]):=iQ (xF k) 2 R (fun _=>rfl) (by decide) j hj
abbrev O2 (s k:Nat) (c:ChT):V:= .agg [.sc (.int .i64 c.1),.sl s c.2.length (C3 k c.2)]
def fB (R:List (Bool × List u6)):Prop:=∀ r ∈ R,PD r.2/\r.2.length<=140737488351232
theorem aX0 (k:Nat) (R:List (Bool × List u6)) (j:Nat) (hj:j<R.length):C0 (C3 k R) (j*2) none=some (.sc (.bool R[j]!.1)):=bH (xF k) 2 R (fun _=>rfl) j 0 hj (by decide)
theorem nH (k:Nat) (R:List (Bool × List u6)) (j:Nat) (hj:j<R.length):C0 (C3 k R) (j*2+1) none=some (.sl k R[j]!.2.length (I5 R[j]!.2)):=bH (xF k) 2 R (fun _=>rfl) j 1 hj (by decide)
abbrev tS (s:Nat) (L:List u6):V:= .sl s L.length (I5 L)
def sG (L:List u6):Int × Int:=if M4 L=0 then (H9 H2 L,0) else (0,M4 L)
def jA (L:List u6):Int × Int:=if M4 L=0 then (H9 L3 L,0) else (0,M4 L)
section
variable (w:World) (n:Nat)
theorem aO5 (s:Nat) (L:List u6) (hL:L.length<=140737488351232) (hK:PD L):m0 (EN w (n+7)) 161 [tS s L] (.tup [iN (sG L).1,iN (sG L).2]) ⟨[],0,0⟩:=by
 have ha:=aB5 w n s L hL hK
 unfold sG
 by_cases e:M4 L=0
 ·rw[aO9 e]
  rw[e] at ha
  obtain ⟨l1,l2,_⟩:=mH e
  have hs:=aB8 w (n+4) s L l1 l2
  refine vF rfl fun C hC h0=>?_
  simp (disch:=try exact z0z) only[WA,simprocAttr,cQ6]
  refine cF hC ha ?_
  simp (disch:=try exact z0z) only[WA,simprocAttr]
  refine cF hC hs ?_
  simp (disch:=try exact z0z) only[WA,simprocAttr]
  exact d7 rfl h0 rfl
 ·rw[aQ4 e]
  generalize M4 L=E at*
  refine vF rfl fun C hC h0=>?_
  simp (disch:=try exact z0z) only[WA,simprocAttr,cQ6]
  refine cF hC ha ?_
  simp (disch:=try exact z0z) only[WA,simprocAttr,e]
  exact d7 rfl h0 rfl
theorem VY (s:Nat) (L:List u6) (hL:L.length<=140737488351232) (hK:PD L):m0 (EN w (n+7)) 162 [tS s L] (.tup [iN (jA L).1,iN (jA L).2]) ⟨[],0,0⟩:=by
 have ha:=aB5 w n s L hL hK
 unfold jA
 by_cases e:M4 L=0
 ·rw[aO9 e]
  rw[e] at ha
  obtain ⟨l1,l2,_⟩:=mH e
  have hs:=aB8 w (n+4) s L l1 l2
  refine vF rfl fun C hC h0=>?_
  simp (disch:=try exact z0z) only[WA,simprocAttr,cQ7]
  refine cF hC ha ?_
  simp (disch:=try exact z0z) only[WA,simprocAttr]
  refine cF hC hs ?_
  simp (disch:=try exact z0z) only[WA,simprocAttr]
  exact d7 rfl h0 rfl
 ·rw[aQ4 e]
  generalize M4 L=E at*
  refine vF rfl fun C hC h0=>?_
  simp (disch:=try exact z0z) only[WA,simprocAttr,cQ7]
  refine cF hC ha ?_
  simp (disch:=try exact z0z) only[WA,simprocAttr,e]
  exact d7 rfl h0 rfl
theorem cF0 (s:Nat) (L:List u6) (hL:L.length<=140737488351232) (hK:PD L):m0 (EN w (n+4)) 125 [tS s L] (.tup [iN (sG L).1,iN (sG L).2]) ⟨[],0,0⟩:=by
 have ha:=bP3 w n s L hL hK
 unfold sG
 by_cases e:M4 L=0
 ·rw[aO9 e]
  rw[e] at ha
  obtain ⟨l1,l2,_⟩:=mH e
  have hs:=OE w (n+1) s L l1 l2
  refine vF rfl fun C hC h0=>?_
  simp (disch:=try exact z0z) only[WA,simprocAttr,cP5]
  refine cF hC ha ?_
  simp (disch:=try exact z0z) only[WA,simprocAttr]
  refine cF hC hs ?_
  simp (disch:=try exact z0z) only[WA,simprocAttr]
  exact d7 rfl h0 rfl
 ·rw[aQ4 e]
  generalize M4 L=E at*
  refine vF rfl fun C hC h0=>?_
  simp (disch:=try exact z0z) only[WA,simprocAttr,cP5]
  refine cF hC ha ?_
  simp (disch:=try exact z0z) only[WA,simprocAttr,e]
  refine cF hC ha ?_
  repeat' (first|(simp (disch:=try exact z0z) only[WA,simprocAttr])|apply j8|((first|apply n7|apply m9|apply l8|apply n8|apply n6|apply l9)<;>intro _))
  exact d7 rfl h0 rfl
theorem bQ7 (s:Nat) (L:List u6) (hL:L.length<=140737488351232) (hK:PD L):m0 (EN w (n+4)) 126 [tS s L] (.tup [iN (jA L).1,iN (jA L).2]) ⟨[],0,0⟩:=by
 have ha:=bP3 w n s L hL hK
 unfold jA
 by_cases e:M4 L=0
 ·rw[aO9 e]
  rw[e] at ha
  obtain ⟨l1,l2,_⟩:=mH e
  have hs:=OE w (n+1) s L l1 l2
  refine vF rfl fun C hC h0=>?_
  simp (disch:=try exact z0z) only[WA,simprocAttr,cP6]
  refine cF hC ha ?_
  simp (disch:=try exact z0z) only[WA,simprocAttr]
  refine cF hC hs ?_
  simp (disch:=try exact z0z) only[WA,simprocAttr]
  exact d7 rfl h0 rfl
 ·rw[aQ4 e]
  generalize M4 L=E at*
  refine vF rfl fun C hC h0=>?_
  simp (disch:=try exact z0z) only[WA,simprocAttr,cP6]
  refine cF hC ha ?_
  simp (disch:=try exact z0z) only[WA,simprocAttr,e]
  refine cF hC ha ?_
  repeat' (first|(simp (disch:=try exact z0z) only[WA,simprocAttr])|apply j8|((first|apply n7|apply m9|apply l8|apply n8|apply n6|apply l9)<;>intro _))
  exact d7 rfl h0 rfl
end
def W7:Int->List (Bool × List u6)->Int
 |_,[]=>0
 |z,r::R=>if M4 r.2 ≠ 0 then M4 r.2 else if H9 H2 r.2 ≠ z then 26 else W7 (H9 L3 r.2) R
def X5 (c:ChT):Int:=if 100<c.2.length then 4 else if c.1<0\/200<c.1 then 8 else W7 c.1 c.2
theorem gF {z:Int} {r:Bool × List u6} {R:List (Bool × List u6)} (h:M4 r.2 ≠ 0):W7 z (r::R)=M4 r.2:=by rw[W7,aO9 h]
theorem gH {z:Int} {r:Bool × List u6} {R:List (Bool × List u6)} (h:M4 r.2=0) (h2:H9 H2 r.2 ≠ z):W7 z (r::R)=26:=by rw[W7,aQ4 (not_not_intro h),aO9 h2]
theorem gJ {z:Int} {r:Bool × List u6} {R:List (Bool × List u6)} (h:M4 r.2=0) (h2:H9 H2 r.2=z):W7 z (r::R)=W7 (H9 L3 r.2) R:=by rw[W7,aQ4 (not_not_intro h),aQ4 (not_not_intro h2)]
theorem fJ {R:List (Bool × List u6)} {j:Nat} (h:j<R.length):R.drop j=R[j]! ::R.drop (j+1):=by rw[dD0 h,bA7 R j h]
theorem fB.at {R:List (Bool × List u6)} (h:fB R) {j:Nat} (hj:j<R.length):PD R[j]!.2/\R[j]!.2.length<=140737488351232:=h _ (by rw[bA7 R j hj];exact cN3 hj)
section
variable (w:World) (n:Nat)
theorem aA8 (s k:Nat) (c:ChT) (hc:c.2.length<=140737488351232) (hK:fB c.2):m0 (EN w (n+5)) 79 [O2 s k c] (iN (X5 c)) ⟨[],0,0⟩:=by
 obtain ⟨z,R⟩:=c
 simp only at hc hK
 have h7:=D9 k R
 unfold X5
 simp only
 refine vF rfl fun C hC h0=>?_
 have h6:C.E.rounds=B6:=by rw[hC,k9]
 by_cases e1:100<R.length
 ·rw[aO9 e1]
  simp (disch:=try exact z0z) only[WA,simprocAttr,c79]
  all_goals try omega
  exact d7 rfl h0 rfl
 rw[aQ4 e1]
 by_cases e2:z<0
 ·rw[aO9 (O e2)]
  simp (disch:=try exact z0z) only[WA,simprocAttr,c79]
  all_goals try omega
  exact d7 rfl h0 rfl
 by_cases e3:200<z
 ·rw[aO9 (Or.inr e3)]
  simp (disch:=try exact z0z) only[WA,simprocAttr,c79]
  all_goals try omega
  exact d7 rfl h0 rfl
 rw[aQ4 (fun h=>h.elim e2 e3)]
 simp (disch:=try exact z0z) only[WA,simprocAttr,c79]
 all_goals try omega
 refine r5 (fun m fr st=>∃ (j:Nat) (y:Int),m=R.length - j/\j<=R.length/\W7 z R=W7 y (R.drop j)/\fr= [(1,.ptr 0 0),(3,iN y),(4,iN j)]/\st=⟨[(0,.box 24 1 [iN z,.sl s R.length (C3 k R)])],1,0⟩) R.length ?_ ⟨_,_,.refl _ _,0,z,by omega,bA5 _,rfl,rfl,rfl⟩ ?_
 ·rw[h6];unfold B6;omega
 rintro m fr st ⟨j,y,rfl,hj,h1,rfl,rfl⟩
 by_cases h4:j<R.length
 case neg=>
  have:j=R.length:=by omega
  subst this
  rw[h1,dJ6,W7]
  simp (disch:=try exact z0z) only[WA,simprocAttr,QD]
  all_goals try omega
  exact d7 rfl h0 rfl
 have h5:=aH k R j h4
 have hk:=hK.at h4
 have hu:=cF0 w n k R[j]!.2 hk.2 hk.1
 have hm:=bQ7 w n k R[j]!.2 hk.2 hk.1
 rw[fJ h4] at h1
 have h3:=nH k R j h4
 unfold sG at hu
 unfold jA at hm
 generalize hr:R[j]! =r at*
 obtain ⟨b,L⟩:=r
 simp only at hu hm h3 hk
 by_cases q1:M4 L=0
 case neg=>
  rw[h1,gF q1]
  rw[aQ4 q1] at hu
  simp only
  generalize M4 L=E at*
  simp (disch:=try exact z0z) only[WA,simprocAttr,QD,h5,h3]
  all_goals try omega
  refine cF hC hu ?_
  simp (disch:=try exact z0z) only[WA,simprocAttr,q1]
  exact d7 rfl h0 rfl
 rw[aO9 q1] at hu hm
 by_cases q2:H9 H2 L=y
 case neg=>
  rw[h1,gH q1 q2]
  generalize H9 H2 L=U at*
  simp (disch:=try exact z0z) only[WA,simprocAttr,QD,h5,h3]
  all_goals try omega
  refine cF hC hu ?_
  simp (disch:=try exact z0z) only[WA,simprocAttr,q2]
  exact d7 rfl h0 rfl
 rw[gJ q1 q2] at h1
 generalize H9 H2 L=U at*
 subst q2
 simp (disch:=try exact z0z) only[WA,simprocAttr,QD,h5,h3]
 all_goals try omega
 refine cF hC hu ?_
 simp (disch:=try exact z0z) only[WA,simprocAttr,h5,h3]
 refine cF hC hm ?_
 simp (disch:=try exact z0z) only[WA,simprocAttr]
 exact ⟨R.length - (j+1),_,_,by omega,.refl _ _,j+1,H9 L3 L,rfl,by omega,h1,rfl,rfl⟩
end
def P0 (x:u6):Bool:=decide (x.kind=1\/x.kind=8)
def Z6 (R:List (Bool × List u6)):Bool:=R.all fun r=>r.2.all P0
def xC (c:ChT):Bool:=Z6 c.2 && decide (c.1<=101)
abbrev cD7:V:= .sc (.func (.func 124) #[] #[])
theorem DD (L:List u6) (k:Nat) (hk:k<L.length):C0 (I5 L) (k*4) none=some (.sc (.int .u8 L[k]!.kind)):=bH (fun x:u6=> [.sc (.int .u8 x.kind),.sc (.bool x.purl),.sc (.int .i64 x.a),.sc (.int .i64 x.b)]) 4 L (fun _=>rfl) k 0 hk (by decide)
theorem bT1 (L:List u6) (k:Nat) (hk:k<L.length):C0 (I5 L) (k*4+1) none=some (.sc (.bool L[k]!.purl)):=bH (fun x:u6=> [.sc (.int .u8 x.kind),.sc (.bool x.purl),.sc (.int .i64 x.a),.sc (.int .i64 x.b)]) 4 L (fun _=>rfl) k 1 hk (by decide)
theorem aV2 {p:u6->Bool} {L:List u6} {k:Nat} (h:k<L.length) (h1:(L.take k).all p=true) (h2:p L[k]! =true):(L.take (k+1)).all p=true:=by
 rw[dD4 h,dD1,h1,dE6,<- bA7 L k h,dD3,h2]
 rfl
theorem UA {p:u6->Bool} {L:List u6} {k:Nat} (h:k<L.length) (h2:p L[k]! =false):L.all p=false:=by
 rw[<- cB6]
 intro ha
 have:=bB3.1 ha L[k]! (by rw[bA7 L k h];exact cN3 h)
 rw[h2] at this;cases this
section
variable (w:World) (n:Nat)
theorem cW0 (x:u6):m0 (EN w (n+1)) 124 [uS x] (.sc (.bool (!P0 x))) ⟨[],0,0⟩:=by
 obtain ⟨k,p,a,b⟩:=x
 refine vF rfl fun C hC h0=>?_
 unfold P0
 simp only
 by_cases e1:k=1
 ·subst e1
  simp (disch:=try exact z0z) only[WA,simprocAttr,bZ0]
  exact d7 rfl h0 rfl
 have f1:((k:Nat):Int) ≠ 1:=by omega
 by_cases e2:k=8
 ·subst e2
  simp (disch:=try exact z0z) only[WA,simprocAttr,bZ0]
  exact d7 rfl h0 rfl
 have f2:((k:Nat):Int) ≠ 8:=by omega
 rw[dA7 (fun h=>h.elim e1 e2)]
 simp (disch:=try exact z0z) only[WA,simprocAttr,bZ0]
 all_goals try omega
 exact d7 rfl h0 rfl
theorem UF (s:Nat) (L:List u6) (hL:L.length<=140737488351232):m0 (EN w (n+3)) 123 [tS s L,cD7] (.sc (.bool (!(L.all P0)))) ⟨[],0,0⟩:=by
 have h7:=E6 L
 have h8:∃ r:Int,(L.all P0=true->r= -1)/\(¬ L.all P0=true->0<=r)/\m0 (EN w (n+2)) 163 [tS s L,cD7] (iN r) ⟨[],0,0⟩:=by
  have main:∀ (j:Nat),j<=L.length->(L.take j).all P0=true->(j<L.length->P0 L[j]! =false)->m0 (EN w (n+2)) 163 [tS s L,cD7] (iN (if j<L.length then (j:Int) else -1)) ⟨[],0,0⟩:=by
   intro j hj h9 hb
   refine vF rfl fun C hC h0=>?_
   simp (disch:=try exact z0z) only[WA,simprocAttr,cQ8]
   refine r5 (fun m fr st=>∃ (k:Nat),m=L.length - k/\k<=j/\fr= [(0,tS s L),(1,cD7),(7,iN L.length),(8,iN k)]/\st=⟨[],0,0⟩) L.length ?_ ⟨_,_,.refl _ _,0,by omega,bA5 _,rfl,rfl⟩ ?_
   ·rw[hC,k9];unfold B6;omega
   rintro m fr st ⟨k,rfl,hk,rfl,rfl⟩
   by_cases h4:k<L.length
   case neg=>
    rw[aQ4 (by omega)]
    simp (disch:=try exact z0z) only[WA,simprocAttr,oR]
    all_goals try omega
    exact d7 rfl h0 rfl
   have h6:=bP L k h4
   have h1:=cW0 w n L[k]!
   by_cases hd:k=j
   ·subst hd
    rw[hb h4] at h1
    rw[aO9 h4]
    simp (disch:=try exact z0z) only[WA,simprocAttr,oR,h6]
    all_goals try omega
    refine cF hC h1 ?_
    simp (disch:=try exact z0z) only[WA,simprocAttr]
    exact d7 rfl h0 rfl
   ·have ho:P0 L[k]! =true:=bB3.1 h9 _ (by
     rw[bA7 _ k h4]
     exact List.mem_iff_getElem.2 ⟨k,by rw[cV7];omega,List.getElem_take⟩)
    rw[ho] at h1
    simp (disch:=try exact z0z) only[WA,simprocAttr,oR,h6]
    all_goals try omega
    refine cF hC h1 ?_
    simp (disch:=try exact z0z) only[WA,simprocAttr]
    exact ⟨L.length - (k+1),_,_,by omega,.refl _ _,k+1,rfl,by omega,rfl,rfl⟩
  have he:∀ m,m<=L.length->(L.take m).all P0=true\/∃ j,j<m/\(L.take j).all P0=true/\P0 L[j]! =false:=by
   intro m
   induction m with
   |zero=>intro _;exact .inl rfl
   |succ m ih=>
    intro hm
    rcases ih (by omega) with h|⟨j,h1,h2,h3⟩
    ·cases hc:P0 L[m]! with
     |true=>exact .inl (aV2 (by omega) h hc)
     |false=>exact .inr ⟨m,by omega,h,hc⟩
    ·exact .inr ⟨j,by omega,h2,h3⟩
  rcases he L.length (aQ5 _) with h|⟨j,h1,h2,h3⟩
  ·refine ⟨_,fun _=>?_,fun hn=>absurd (by rwa [dJ4] at h) hn,main L.length (aQ5 _) h fun h=>absurd h (dK8 _)⟩
   rw[aQ4 (dK8 _)]
  ·refine ⟨_,fun ha=>?_,fun _=>?_,main j (by omega) h2 fun _=>h3⟩
   ·rw[UA h1 h3] at ha;cases ha
   ·rw[aO9 h1];omega
 obtain ⟨r,h1,h2,hr⟩:=h8
 by_cases ha:L.all P0=true
 ·have e:=h1 ha
  subst e
  rw[ha]
  refine vF rfl fun C hC h0=>?_
  simp (disch:=try exact z0z) only[WA,simprocAttr,bD0]
  refine cF hC hr ?_
  simp (disch:=try exact z0z) only[WA,simprocAttr]
  exact d7 rfl h0 rfl
 ·have e:=h2 ha
  rw[cB6] at ha
  rw[ha]
  refine vF rfl fun C hC h0=>?_
  simp (disch:=try exact z0z) only[WA,simprocAttr,bD0]
  refine cF hC hr ?_
  simp (disch:=try exact z0z) only[WA,simprocAttr]
  all_goals try omega
  exact d7 rfl h0 rfl
theorem aM0 {R:List (Bool × List u6)} {j:Nat} (hj:j<R.length):Z6 (R.drop j)=(R[j]!.2.all P0 && Z6 (R.drop (j+1))):=by
 rw[fJ hj];rfl
theorem cD8 (s k:Nat) (z:Int) (R:List (Bool × List u6)) (hc:R.length<=140737488351232) (hK:fB R):m0 (EN w (n+4)) 77 [O2 s k (z,R)] (.sc (.bool (xC (z,R)))) ⟨[],0,0⟩:=by
 have h7:=D9 k R
 unfold xC
 simp only
 refine vF rfl fun C hC h0=>?_
 have hf:C.E.rounds=B6:=by rw[hC,k9]
 simp (disch:=try exact z0z) only[WA,simprocAttr,c77]
 refine r5 (fun m fr st=>∃ (j nx:Nat),m=R.length - j/\j<=R.length/\Z6 R=Z6 (R.drop j)/\fr= [(1,.ptr 0 0),(6,.sl s R.length (C3 k R)),(7,iN R.length),(8,iN j)]/\st=⟨[(0,.box 24 1 [iN z,.sl s R.length (C3 k R)])],1,0⟩) R.length ?_ ⟨_,_,.refl _ _,0,1,by omega,bA5 _,rfl,rfl,rfl⟩ ?_
 ·rw[hf];unfold B6;omega
 rintro m fr st ⟨j,nx,rfl,hj,h5,rfl,rfl⟩
 by_cases h4:j<R.length
 case neg=>
  have:j=R.length:=by omega
  subst this
  have hp:Z6 R=true:=by rw[h5,dJ6];rfl
  rw[hp,dE6]
  simp (disch:=try exact z0z) only[WA,simprocAttr,aE9]
  all_goals try omega
  exact d7 rfl h0 rfl
 have h6:=aH k R j h4
 have hk:=hK.at h4
 have hp:=UF w n k R[j]!.2 hk.2
 rw[aM0 h4] at h5
 generalize hr:R[j]! =r at*
 obtain ⟨b,L⟩:=r
 simp only at hp hk h5
 by_cases q1:L.all P0=true
 case neg=>
  rw[cB6] at q1
  rw[h5,q1,Bool.false_and,Bool.false_and]
  rw[q1] at hp
  simp (disch:=try exact z0z) only[WA,simprocAttr,aE9,h6]
  all_goals try omega
  refine cF hC hp ?_
  simp (disch:=try exact z0z) only[WA,simprocAttr]
  exact d7 rfl h0 rfl
 rw[q1,dE6] at h5
 rw[q1] at hp
 simp (disch:=try exact z0z) only[WA,simprocAttr,aE9,h6]
 all_goals try omega
 refine cF hC hp ?_
 simp (disch:=try exact z0z) only[WA,simprocAttr]
 exact ⟨R.length - (j+1),_,_,by omega,o9 [(0,0)] 1 h0 rfl rfl rfl rfl,j+1,1,rfl,by omega,h5,rfl,rfl⟩
end
theorem bO1 {R:List (Bool × List u6)} {j:Nat} (hj:j<R.length) (h:R[j]!.2.all P0=false):Z6 R=false:=by
 rw[<- cB6]
 intro ha
 have:=bB3.1 ha R[j]! (by rw[bA7 R j hj];exact cN3 hj)
 rw[h] at this;cases this
theorem bG2 {L:List u6} {k:Nat} (h:k<L.length):L.drop k=L[k]! ::L.drop (k+1):=by rw[dD0 h,bA7 L k h]
def uE (x:u6):u6:=⟨x.kind,if x.kind=2\/x.kind=9 then x.purl else !x.purl,if x.kind=6\/x.kind=7 then x.b else x.a,if x.kind=6\/x.kind=7 then x.a else x.b⟩
def Q6 (L:List u6):List u6:=L.reverse.map uE
def H5 (r:Bool × List u6):List u6:=if r.1=true then Q6 r.2 else r.2
section
variable (w:World) (n:Nat)
theorem bQ8 (s k:Nat) (z:Int) (R:List (Bool × List u6)) (hc:R.length<=140737488351232) (hK:fB R):m0 (EN w (n+1)) 80 [O2 s k (z,R)] (.sc (.bool (xC (z,R)))) ⟨[],0,0⟩:=by
 have hd:=D9 k R
 unfold xC
 simp only
 refine vF rfl fun C hC h0=>?_
 have h8:C.E.rounds=B6:=by rw[hC,k9]
 simp (disch:=try exact z0z) only[WA,simprocAttr,c80]
 refine r5 (fun m fr st=>∃ (j:Nat),m=R.length - j/\j<=R.length/\Z6 R=Z6 (R.drop j)/\fr= [(1,.ptr 0 0),(3,iN j)]/\st=⟨[(0,.box 24 1 [iN z,.sl s R.length (C3 k R)])],1,0⟩) R.length ?_ ⟨_,_,.refl _ _,0,by omega,bA5 _,rfl,rfl,rfl⟩ ?_
 ·rw[h8];unfold B6;omega
 rintro m fr st ⟨j,rfl,hj,h2,rfl,rfl⟩
 by_cases h4:j<R.length
 case neg=>
  have:j=R.length:=by omega
  subst this
  have hp:Z6 R=true:=by rw[h2,dJ6];rfl
  rw[hp,dE6]
  simp (disch:=try exact z0z) only[WA,simprocAttr,bD6]
  all_goals try omega
  exact d7 rfl h0 rfl
 have h3:=nH k R j h4
 have hk:=hK.at h4
 rw[aM0 h4] at h2
 have h9:=@bO1 R j h4
 generalize hr:R[j]! =r at*
 obtain ⟨b,L⟩:=r
 simp only at hk h2 h3 h9
 have he:=E6 L
 simp (disch:=try exact z0z) only[WA,simprocAttr,bD6]
 all_goals try omega
 refine r5 (fun m fr st=>∃ (i:Nat),m=L.length - i/\i<=L.length/\L.all P0=(L.drop i).all P0/\fr= [(1,.ptr 0 0),(3,iN j),(4,iN i)]/\st=⟨[(0,.box 24 1 [iN z,.sl s R.length (C3 k R)])],1,0⟩) L.length ?_ ⟨_,_,.refl _ _,0,by omega,bA5 _,rfl,rfl,rfl⟩ ?_
 ·rw[h8];unfold B6;omega
 rintro m fr st ⟨i,rfl,hi,h1,rfl,rfl⟩
 by_cases h6:i<L.length
 case neg=>
  have:i=L.length:=by omega
  subst this
  have hp:L.all P0=true:=by rw[h1,dJ6];rfl
  rw[hp,dE6] at h2
  simp (disch:=try exact z0z) only[WA,simprocAttr,QE,h3]
  all_goals try omega
  exact ⟨R.length - (j+1),_,_,by omega,.refl _ _,j+1,rfl,by omega,h2,rfl,rfl⟩
 have h5:=DD L i h6
 rw[bG2 h6,dD3] at h1
 have h7:=@UA P0 L i h6
 generalize L[i]! =x at*
 obtain ⟨kd,p,a,b⟩:=x
 unfold P0 at h7 h1
 simp only at h5 h7 h1
 by_cases e1:kd=1
 ·subst e1
  simp (disch:=try exact z0z) only[WA,simprocAttr,QE,h3,h5]
  all_goals try omega
  exact ⟨L.length - (i+1),_,_,by omega,.refl _ _,i+1,rfl,by omega,h1,rfl,rfl⟩
 have f1:((kd:Nat):Int) ≠ 1:=by omega
 by_cases e2:kd=8
 ·subst e2
  simp (disch:=try exact z0z) only[WA,simprocAttr,QE,h3,h5]
  all_goals try omega
  exact ⟨L.length - (i+1),_,_,by omega,.refl _ _,i+1,rfl,by omega,h1,rfl,rfl⟩
 have f2:((kd:Nat):Int) ≠ 8:=by omega
 have hb:Z6 R=false:=h9 (h7 (dA7 (fun h=>h.elim e1 e2)))
 rw[hb,Bool.false_and]
 simp (disch:=try exact z0z) only[WA,simprocAttr,QE,h3,h5]
 all_goals try omega
 exact d7 rfl h0 rfl
theorem cC4 (x:u6) (hx:x.kind<256):m0 (EN w (n+1)) 172 [uS x] (uS (uE x)) ⟨[],0,0⟩:=by
 obtain ⟨k,p,a,b⟩:=x
 simp only at hx
 refine vF rfl fun C hC h0=>?_
 unfold uE
 simp only
 by_cases e1:k=2
 ·subst e1
  simp (disch:=try exact z0z) only[WA,simprocAttr,aR4]
  exact d7 rfl h0 rfl
 have f1:((k:Nat):Int) ≠ 2:=by omega
 by_cases e2:k=9
 ·subst e2
  simp (disch:=try exact z0z) only[WA,simprocAttr,aR4]
  exact d7 rfl h0 rfl
 have f2:((k:Nat):Int) ≠ 9:=by omega
 rw[aQ4 (fun h=>h.elim e1 e2)]
 by_cases e3:k=6
 ·subst e3
  simp (disch:=try exact z0z) only[WA,simprocAttr,aR4]
  exact d7 rfl h0 rfl
 have f3:((k:Nat):Int) ≠ 6:=by omega
 by_cases e4:k=7
 ·subst e4
  simp (disch:=try exact z0z) only[WA,simprocAttr,aR4]
  exact d7 rfl h0 rfl
 have f4:((k:Nat):Int) ≠ 7:=by omega
 rw[aQ4 (fun h=>h.elim e3 e4),aQ4 (fun h=>h.elim e3 e4)]
 simp (disch:=try exact z0z) only[WA,simprocAttr,aR4]
 all_goals try omega
 all_goals exact d7 rfl h0 rfl
end
theorem gE (nx t:Nat) (a b c d:Value):T8 nx t 4 1 [.int .u8 0,.bool false,.int .i64 0,.int .i64 0] [(0,4,.agg [.sc a,.sc b,.sc c,.sc d])]=some (.ref nx 0 1 1,some (.row t 4 false false [.sc a,.sc b,.sc c,.sc d]),[]):=(rfl)
theorem CX {H:E9} {o t n:Nat} {z:Bool} {l:List D} (h:j7 H o=some (.gro t 4 z l)) (hl:l.length=n*4):D1 H (.gr 2 o n)=some (.sl 2 n l):=by
 simp only[D1,dS,h]
 rw[aO9 ⟨hl,by decide,by decide,by decide⟩]
 rfl
theorem CY {H:E9} {o c t:Nat} {g z:Bool} {l:List D} (h:j7 H o=some (.row t 4 g z l)):D1 H (.ref o 0 0 c)=some (.sl 0 0 []):=by
 simp only[D1,dS,h,cZ9,dD7]
 rw[aO9 (by omega)]
 rfl
theorem WK (A B:List u6):I5 (A++B)=I5 A++I5 B:=by simp[I5]
theorem JY (A:List u6) (x:u6):I5 (A++ [x])=I5 A++ [.sc (.int .u8 x.kind),.sc (.bool x.purl),.sc (.int .i64 x.a),.sc (.int .i64 x.b)]:=by simp[I5]
theorem OL (L:List u6):Q1 (I5 L)=true:=by
 simp only[Q1,bB3]
 intro d hd
 simp only[I5,dL7] at hd
 obtain ⟨x,_,hc⟩:=hd
 simp at hc
 rcases hc with rfl|rfl|rfl|rfl<;>rfl
theorem bQ (L:List u6):(Q6 L).length=L.length:=by simp[Q6]
theorem sF (L:List u6) (j:Nat) (hj:j<L.length):(L.reverse.take (j+1)).map uE=(L.reverse.take j).map uE++ [uE L[L.length - 1 - j]!]:=by
 rw[dD4 (by simpa using hj),dK6,List.getElem_reverse,bA7 L (L.length - 1 - j) (by omega)]
 rfl
theorem cB3 {C:C8} (h0:C.w0.nx=0):K7 C [(0,.sc (.slice none 0 0))] ⟨[],0,0⟩ [(0,.sl 3 0 [])] ⟨[],0,0⟩:=
 (T1 (C:=C) (st:=⟨[],0,0⟩) 0 0 1 rfl).trans (ZL (s:=2) (n:=0) (l:= []) rfl rfl (.inl (by decide)) h0 rfl)
section
variable (w:World) (n:Nat)
theorem rX (s:Nat) (L:List u6) (hL:L.length<=1000000) (hk:s=2\/s=0\/0<L.length):m0 (EN w (n+1)) 82 [tS s L] (tS 3 L) ⟨[],0,0⟩:=by
 have h5:=E6 L
 have hi:=OL L
 refine vG rfl nG fun C hC h0=>?_
 by_cases hl:L= []
 ·subst hl
  rcases hk with rfl|rfl|h
  ·have h4:I1 1 (tS 2 [])=some true:=rfl
   simp (disch:=try exact z0z) only[WA,simprocAttr,c82,dC,h4]
   exact cB3 h0
  ·have h4:I1 1 (tS 0 [])=some false:=rfl
   simp (disch:=try exact z0z) only[WA,simprocAttr,c82,dC,h4]
   exact ZL (CY rfl) rfl (.inl (by decide)) h0 rfl
  ·exact absurd h (by decide)
 have h7:L.length ≠ 0:=fun h=>hl (bA8 h)
 have h4:I1 1 (tS s L)=some false:=by
  have h3:Nat.beq L.length 0=false:=BC.2 h7
  simp only[tS,jS,I1,h3]
  cases Nat.beq s 0<;>cases Nat.beq s 2<;>rfl
 simp (disch:=try exact z0z) only[WA,simprocAttr,c82,dC,h4]
 exact ZL (CX rfl h5) rfl (.inl (by decide)) h0 rfl
theorem aB6 (k:FloatKind) (b e:Nat) (s:St):(EN w (n+1)).pcall 82 [.complex k b e] s=(EN w (n+1)).pcall 82 [.slice (some ⟨0,0,none⟩) 0 0] s:=rfl
theorem aX4 (s:Nat) (L:List u6) (hL:L.length<=1000000) (hk:s=1\/s=2\/s=0\/0<L.length):m0 (EN w (n+1)) 82 [tS s L] (tS 3 L) ⟨[],0,0⟩:=by
 by_cases h:s=2\/s=0\/0<L.length
 ·exact rX w n s L hL h
 have hs:s=1:=by omega
 have hl:L= []:=bA8 (by omega)
 subst hs hl
 intro st F xsI h1 h2 h3
 simp only[i6] at h3
 obtain ⟨v,vs,rfl,hv,rfl⟩:=h3
 rcases hv with ⟨a,c,e1,e2,e3,e4,_⟩|⟨_,_,_,rfl|⟨_,k,b,e,rfl⟩⟩
 ·exact rX w n 0 [] hL (.inr (.inl rfl)) st F [v] h1 h2 (by simp only[i6];exact ⟨v,[],rfl,.inl ⟨a,c,e1,e2,e3,e4,fun h=>by cases h⟩,rfl⟩)
 ·exact rX w n 2 [] hL (.inl rfl) st F [_] h1 h2 (by simp only[i6];exact ⟨_,[],rfl,.inr ⟨by decide,rfl,rfl,.inl rfl⟩,rfl⟩)
 ·rw[aB6]
  exact rX w n 0 [] hL (.inr (.inl rfl)) st F [_] h1 h2 (by simp only[i6];exact ⟨_,[],rfl,.inl ⟨⟨0,0,none⟩,0,rfl,trivial,bA5 _,trivial,fun h=>by cases h⟩,rfl⟩)
theorem bU5 (s:Nat) (L:List u6) (hL:L.length<=1000000) (hK:PD L):m0 (EN w (n+2)) 132 [tS s L] (tS 3 (Q6 L)) ⟨[],0,0⟩:=by
 have h5:=E6 L
 unfold tS
 rw[bQ]
 refine vG rfl nG fun C hC h0=>?_
 have h8:C.E.rounds=B6:=by rw[hC,k9]
 simp (disch:=try exact z0z) only[WA,simprocAttr,dB1]
 refine r5 (fun m fr st=>∃ (j:Nat),m=L.length - j/\j<=L.length/\fr= [(0,tS s L),(3,.gr 2 0 j),(4,iN ((L.length:Int) - 1 - j))]/\st=⟨[(0,.gro 82 4 false (I5 ((L.reverse.take j).map uE)))],1,0⟩) L.length ?_ ⟨_,_,T1 3 82 4 rfl,0,by omega,bA5 _,?_,rfl⟩ ?_
 ·rw[h8];unfold B6;omega
 ·simp[oQ]
 rintro m fr st ⟨j,rfl,hj,rfl,rfl⟩
 by_cases h9:j<L.length
 case neg=>
  have:j=L.length:=by omega
  subst this
  have e:(L.reverse.take L.length).map uE=Q6 L:=by unfold Q6;rw[cS6 (by simp)]
  rw[e]
  have hl:=E6 (Q6 L)
  rw[bQ] at hl
  generalize I5 (Q6 L)=Z at*
  simp (disch:=try exact z0z) only[WA,simprocAttr,YS]
  all_goals try omega
  exact ZL (CX rfl hl) rfl (.inl (by decide)) h0 rfl
 have ha:=sF L j h9
 have hb:=bP L (L.length - 1 - j) (by omega)
 have he:=hK.at (k:=L.length - 1 - j) (by omega)
 have ho:=cC4 w n L[L.length - 1 - j]! he
 have hf:((L.length:Int) - 1 - j)=((L.length - 1 - j:Nat):Int):=by omega
 have hd:=E6 ((L.reverse.take j).map uE)
 have hg:((L.reverse.take j).map uE).length=j:=by rw[cZ0,cV7,List.length_reverse];omega
 rw[hg] at hd
 rw[hf]
 have h6:=JY ((L.reverse.take j).map uE) (uE L[L.length - 1 - j]!)
 rw[<- ha] at h6
 have hm:L.length - 1 - j<L.length:=by omega
 have hh:((L.length:Int) - 1 - ((j+1:Nat):Int))=((L.length - 1 - j:Nat):Int) - 1:=by omega
 generalize I5 ((L.reverse.take j).map uE)=AD at*
 generalize uE L[L.length - 1 - j]! =y at*
 generalize L[L.length - 1 - j]! =x at*
 generalize L.length - 1 - j=i at*
 obtain ⟨xk,xp,xa,xb⟩:=x
 obtain ⟨yk,yp,ya,yb⟩:=y
 simp (disch:=try exact z0z) only[WA,simprocAttr,YS,hb]
 all_goals try omega
 refine cF hC ho ?_
 simp (disch:=try exact z0z) only[WA,simprocAttr,gE]
 exact ⟨L.length - (j+1),_,_,by omega,o9 [(2,0)] 1 h0 rfl rfl rfl rfl,j+1,rfl,by omega,by rw[hh];rfl,by rw[h6];rfl⟩
end
section
variable (w:World) (n:Nat)
theorem bS1 (k:Nat) (b:Bool) (L:List u6) (hL:L.length<=1000000) (hK:PD L):m0 (EN w (n+3)) 89 [.agg [.sc (.bool b),tS k L]] (tS 3 (H5 (b,L))) ⟨[],0,0⟩:=by
 have h1:=E6 L
 have h2:=OL L
 refine vG rfl nG fun C hC h0=>?_
 unfold H5
 cases b with
 |true=>
  rw[aO9 rfl]
  have ht:=bU5 w n k L hL hK
  simp only
  simp (disch:=try exact z0z) only[WA,simprocAttr,c89]
  refine cN hC ht ?_
  repeat' (first|(simp (disch:=try exact z0z) only[WA,simprocAttr])|apply j8|((first|apply n7|apply m9|apply l8|apply n8|apply n6|apply l9)<;>intro _))
  exact o9 [] 0 h0 rfl rfl rfl rfl
 |false=>
  rw[aQ4 (fun h=>by cases h)]
  simp only
  by_cases hl:L= []
  ·subst hl
   simp (disch:=try exact z0z) only[WA,simprocAttr,c89]
   exact ZL (CY rfl) rfl (.inl (by decide)) h0 rfl
  ·have h3:L.length ≠ 0:=fun h=>hl (bA8 h)
   simp (disch:=try exact z0z) only[WA,simprocAttr,c89]
   exact ZL (CX rfl h1) rfl (.inl (by decide)) h0 rfl
end
abbrev dY (z:Int) (s k:Nat) (R:List (Bool × List u6)):Itp.Obj:= .box 24 1 [iN z,.sl s R.length (C3 k R)]
abbrev dM2 (z:Int) (s k:Nat) (R:List (Bool × List u6)) (e:Int):E9:= [(2,Z0 0),(1,.box 28 1 [iN e]),(0,dY z s k R)]
section
variable (w:World) (n:Nat)
theorem GL (s k:Nat) (hs:s ≠ 1) (z:Int) (R:List (Bool × List u6)):m0 (EN w (n+1)) 122 [O2 s k (z,R)] (.fn 160 [] [.ptr 0 0]) ⟨[(0,dY z s k R)],1,0⟩:=by
 refine aP9 rfl rfl (fun _ _=>rfl) (cJ5 rfl) (jC w) ?_ rfl fun C hC hn=>?_
 ·have hc:Cl [(0,dY z s k R)] (.sl s R.length (C3 k R)):=by
   simp only[Cl,EQ,cW5,cL0,BC];exact .inl hs
  refine ⟨?_,fun o t e L h=>?_,fun o ob h=>?_⟩
  ·simp only[Cl,YF,and_true,true_and]
   exact ⟨_,rfl,rfl⟩
  ·rw[n5,kF] at h
   split at h
   ·cases h;exact ⟨trivial,hc,trivial⟩
   ·cases h
  ·rw[n5,kF] at h
   split at h
   ·rename_i h1;subst h1
    exact fun _=>VR.root 0 (by simp[aP,jV])
   ·cases h
 ·simp (disch:=try exact z0z) only[WA,simprocAttr,dA8]
  exact o9 [(0,0)] 1 hn rfl rfl rfl (by simp[uG,n5,UZ,dW,Z1])
theorem sY {E:G3} (z:Int) (s k:Nat) (R:List (Bool × List u6)) (X:Itp.Obj) (j b a e:Int) (Q2:V->n9->Prop)
  (h0:e=0->Q2 (.sc (.bool true)) ⟨[(4,.box 186 1 [iN b,iN a,iN e]),(2,Z0 0),(1,.box 28 1 [iN 0]),(0,dY z s k R)],5,0⟩)
  (h1:e ≠ 0->Q2 (.sc (.bool false)) ⟨[(4,.box 186 1 [iN b,iN a,iN e]),(2,Z0 2),(1,.box 28 1 [iN e]),(0,dY z s k R)],5,0⟩):
  sO E bD5 aE8 [(2,.ptr 1 0)] [19,20] 2 [iN j,.agg [iN b,iN a,iN e]] ⟨[(4,.box 186 1 [iN b,iN a,iN e]),(3,X),(2,Z0 0),(1,.box 28 1 [iN 0]),(0,dY z s k R)],5,0⟩ Q2:=by
 refine ⟨(by first|exact bA5 _|trivial),rfl,(by show (2:Nat)<5;decide),_,rfl,fun C4 h3 h2=>?_⟩
 simp (disch:=try exact z0z) only[WA,simprocAttr,bD5]
 refine ⟨trivial,(by first|exact bA5 _|trivial),trivial,?_⟩
 by_cases he:e=0
 ·subst he
  simp (disch:=try exact z0z) only[WA,simprocAttr,aE8]
  refine ⟨(by first|exact bA5 _|trivial),trivial,_,R9 [(4,4),(2,2),(1,1),(0,0)] 5 (by rw[h2];exact aQ5 _) rfl (by rw[h2];rfl) rfl rfl,?_⟩
  exact h0 rfl
 ·simp (disch:=try exact z0z) only[WA,simprocAttr,aE8]
  refine ⟨(by first|exact bA5 _|trivial),trivial,_,R9 [(4,4),(2,2),(1,1),(0,0)] 5 (by rw[h2];exact aQ5 _) rfl (by rw[h2];rfl) rfl rfl,?_⟩
  exact h1 he
end
section
variable (w:World) (n:Nat)
theorem sX (s k:Nat) (hs:s ≠ 1) (z:Int) (R:List (Bool × List u6)) (hc:R.length<=140737488351232) (hK:fB R):m0 (EN w (n+9)) 76 [O2 s k (z,R)] (iN (X5 (z,R))) ⟨[],0,0⟩:=by
 have h9:=D9 k R
 unfold X5
 simp only
 refine vF rfl fun C hC h0=>?_
 by_cases e1:100<R.length
 ·rw[aO9 e1]
  simp (disch:=try exact z0z) only[WA,simprocAttr,c76]
  all_goals try omega
  exact d7 rfl h0 rfl
 rw[aQ4 e1]
 by_cases e2:z<0
 ·rw[aO9 (O e2)]
  simp (disch:=try exact z0z) only[WA,simprocAttr,c76]
  all_goals try omega
  exact d7 rfl h0 rfl
 by_cases e3:200<z
 ·rw[aO9 (Or.inr e3)]
  simp (disch:=try exact z0z) only[WA,simprocAttr,c76]
  all_goals try omega
  exact d7 rfl h0 rfl
 rw[aQ4 (fun h=>h.elim e2 e3)]
 have h7:=GL w (n+7) s k hs z R
 simp (disch:=try exact z0z) only[WA,simprocAttr,c76]
 all_goals try omega
 refine bE (by rw[hC];exact h7) rfl rfl rfl ?_
 simp (disch:=try exact z0z) only[WA,simprocAttr,pX,wT,shO,mD,S5,fA]
 refine SP (fr':= [(2,.ptr 1 0),(18,.fn 160 [] [.ptr 0 0])]) (st':=⟨[(1,.box 28 1 [iN 0]),(0,dY z s k R)],2,0⟩) (o9 [(1,1),(2,0)] 2 h0 rfl rfl rfl rfl) ?_
 refine MU hC rfl rfl rfl (cJ5 rfl) rfl (bA5 _) fun C2 h6 h8 h2 h3 hT=>?_
 simp (disch:=try exact z0z) only[WA,simprocAttr,cQ5]
 refine r5 (fun m fr st=>∃ (j:Nat) (y:Int),m=R.length - j/\j<=R.length/\W7 z R=W7 y (R.drop j)/\fr= [(0,.tok 2),(3,iN y),(12,.sl s R.length (C3 k R)),(13,iN R.length),(14,iN j)]/\st=⟨dM2 z s k R 0,3,0⟩) R.length ?_ ⟨_,_,.refl _ _,0,z,by omega,(by first|exact bA5 _|trivial),rfl,rfl,rfl⟩ ?_
 ·rw[h8];unfold B6;omega
 rintro m fr st ⟨j,y,rfl,hj,h1,rfl,rfl⟩
 by_cases h4:j<R.length
 case neg=>
  have:j=R.length:=by omega
  subst this
  rw[h1,dJ6,W7]
  simp (disch:=try exact z0z) only[WA,simprocAttr,iI]
  all_goals try omega
  refine ⟨fun i h=>(by cases h),(by first|exact bA5 _|trivial),0,.normal,rfl,rfl,?_⟩
  simp (disch:=try exact z0z) only[WA,simprocAttr]
  exact d7 rfl h0 rfl
 have h5:=aH k R j h4
 have hk:=hK.at h4
 have hu:=aO5 w n k R[j]!.2 hk.2 hk.1
 have hm:=VY w n k R[j]!.2 hk.2 hk.1
 rw[fJ h4] at h1
 unfold sG at hu
 unfold jA at hm
 generalize hr:R[j]! =r at*
 obtain ⟨b,L⟩:=r
 simp only at hu hm hk
 by_cases q1:M4 L=0
 case neg=>
  rw[h1,gF q1]
  rw[aQ4 q1] at hu
  simp only
  generalize M4 L=E at*
  simp (disch:=try exact z0z) only[WA,simprocAttr,iI,h5]
  all_goals try omega
  refine m8 ((hu.flat rfl rfl).env h2 h3) ?_
  simp (disch:=try exact z0z) only[WA,simprocAttr,q1]
  refine hT _ _ _ (sY z s k R _ j y 0 E _ (fun h=>absurd h q1) fun _=>?_)
  simp (disch:=try exact z0z) only[WA,simprocAttr]
  refine ⟨fun i h=>(by cases h),(by first|exact bA5 _|trivial),2,.ret,rfl,rfl,?_⟩
  simp (disch:=try exact z0z) only[WA,simprocAttr]
  exact d7 rfl h0 rfl
 rw[aO9 q1] at hu hm
 by_cases q2:H9 H2 L=y
 case neg=>
  rw[h1,gH q1 q2]
  generalize H9 H2 L=U at*
  simp (disch:=try exact z0z) only[WA,simprocAttr,iI,h5]
  all_goals try omega
  refine m8 ((hu.flat rfl rfl).env h2 h3) ?_
  simp (disch:=try exact z0z) only[WA,simprocAttr,q2]
  refine hT _ _ _ (sY z s k R _ j y 0 26 _ (fun h=>absurd h (by decide)) fun _=>?_)
  simp (disch:=try exact z0z) only[WA,simprocAttr]
  refine ⟨fun i h=>(by cases h),(by first|exact bA5 _|trivial),2,.ret,rfl,rfl,?_⟩
  simp (disch:=try exact z0z) only[WA,simprocAttr]
  exact d7 rfl h0 rfl
 rw[gJ q1 q2] at h1
 generalize H9 H2 L=U at*
 subst q2
 simp (disch:=try exact z0z) only[WA,simprocAttr,iI,h5]
 all_goals try omega
 refine m8 ((hu.flat rfl rfl).env h2 h3) ?_
 simp (disch:=try exact z0z) only[WA,simprocAttr]
 refine m8 ((hm.flat rfl rfl).env h2 h3) ?_
 simp (disch:=try exact z0z) only[WA,simprocAttr]
 refine hT _ _ _ (sY z s k R _ j U (H9 L3 L) 0 _ (fun _=>?_) (fun h=>absurd rfl h))
 simp (disch:=try exact z0z) only[WA,simprocAttr]
 exact ⟨R.length - (j+1),_,_,by omega,R9 [(2,2),(1,1),(0,0)] 3 (by rw[h6];exact aQ5 _) rfl (by rw[h6];rfl) rfl rfl,j+1,H9 L3 L,rfl,by omega,h1,rfl,rfl⟩
end
theorem iC (nx t e b n c o k m:Nat) (base:Src) (new:List D) (fz:List Nat) (hm:m ≠ 0) (hc:n+m<=c):iB nx t e b n c o k base (some (m,new,fz))=none:=by
 have h:Nat.blt c (n+m)=false:=by rw[<- cB6,bA6];omega
 simp only[iB,h,Bool.and_false,Bool.false_and,cS5,if_false]
 rw[aQ4 (by rw[j9];exact hm)]
 split<;>rfl
theorem iE (H:E9) (nx ro t e b o k n c t' e' m:Nat) (g:Bool) (l new:List D) (h8:ro<=o) (he:e ≠ 0) (hm:m ≠ 0) (h9:Q1 new=true) (ha:n+m<=c) (hc:c<=1099511627776) (h2:(n+m)*b<=1099511627776) (hl:k+n*e+new.length<=l.length):
  cC ⟨H,nx,ro⟩ t e b o k n c (some (.row t' e' g false l)) (some (m,new,[]))=some (.ref o k (n+m) c,⟨A3 H o (.row t' e' g false (l.take (k+n*e)++new++l.drop (k+n*e+new.length))),nx,ro⟩):=by
 simp only[cC,h9]
 have hb:Nat.ble ro o=true:=by rw[bA2];exact h8
 have h3:Nat.ble (n+m) s9=true:=by rw[bA2];unfold s9;omega
 have h4:Nat.ble ((n+m)*b) s9=true:=by rw[bA2];exact h2
 have h5:Nat.blt c A5=true:=by rw[bA6];unfold A5;omega
 have h6:Nat.ble (n+m) c=true:=by rw[bA2];exact ha
 rw[aO9 (by simp[BC.2 he,D4]),aQ4 (by simp[hb,h3,h4,BC.2 hm]),aO9 h5,aO9 (by rw[h6];simp[p5])]
 rw[fY _ _ _ hl,y9]
 rfl
def sC:u6:=⟨0,false,0,0⟩
abbrev z4:List Value:= [.int .u8 0,.bool false,.int .i64 0,.int .i64 0]
theorem bQ5 (m:Nat):pN (rep z4 m)=I5 (List.replicate m sC):=by
 induction m with
 |zero=>rfl
 |succ m ih=>
  have e1:pN (rep z4 (m+1))=pN z4++pN (rep z4 m):=by simp[rep,pN]
  rw[e1,ih,List.replicate_succ]
  simp[I5,pN,sC]
theorem JE (m:Nat):(rep z4 m).all D2=true:=by
 induction m with
 |zero=>rfl
 |succ m ih=>
  have e:rep z4 (m+1)=z4++rep z4 m:=rfl
  rw[e,dD1,ih];rfl
theorem NL (nx t c:Nat) (hc:c<=1000000):Y3 nx t 4 24 z4 (.sc (.int .i64 0)) (.sc (.int .i64 c))=some (.ref nx 0 0 c,some (.row t 4 false false (I5 (List.replicate c sC))),[]):=by
 simp only[Y3]
 rw[aO9 ⟨by omega,by omega,by unfold s9;omega,by unfold s9;omega,by rw[cJ2];exact JE c⟩,cJ2,bQ5]
 rfl
theorem FB (nx t c:Nat) (hc:c<=1000000):Y3 nx t 4 24 z4 (.sc (.int .i64 c)) (.sc (.int .i64 c))=some (.ref nx 0 c c,some (.row t 4 false false (I5 (List.replicate c sC))),[]):=by
 simp only[Y3]
 rw[aO9 ⟨by omega,by omega,by unfold s9;omega,by unfold s9;omega,by rw[cJ2];exact JE c⟩,cJ2,bQ5]
theorem bN3 {x:u6} (h:dZ x):uE x=⟨x.kind,fS x.kind && !x.purl,if 0<fB1 x.kind then x.b else x.a,if 0<fB1 x.kind then x.a else x.b⟩:=by
 have hb:=h.bounds
 obtain ⟨k,p,a,b⟩:=x
 simp only at hb
 have hf:=(JZ (x:=⟨k,p,a,b⟩) hb.1 hb.2.1).1 h
 simp only at hf
 unfold uE
 simp only
 rcases (by omega:k=1\/k=2\/k=3\/k=4\/k=5\/k=6\/k=7\/k=8\/k=9\/k=10) with rfl|rfl|rfl|rfl|rfl|rfl|rfl|rfl|rfl|rfl
 all_goals
  cases p<;>simp[fS,fB1] at hf ⊢
theorem aS7 (k:Nat):fB1 k=0\/fB1 k=6:=by
 unfold fB1
 split
 ·exact .inr rfl
 ·exact .inr rfl
 ·exact .inl rfl
abbrev cW8 (s:Nat) (L:List u6) (A:List D) (j c:Nat):E9:= [(3,Z0 0),(2,.box 76 1 [tS s L]),(1,.box 76 1 [.ref 0 0 j c]),(0,.row 82 4 false false A)]
section
variable (w:World) (n:Nat)
theorem cP1 {C:C8} {Q:V->n9->Prop} (hC:C.E=EN w (n+1)) (s:Nat) (L:List u6) (H:E9) (nx:Nat) (hq:Q (.fn 169 [] [.ptr nx 0]) ⟨(nx,.box 76 1 [tS s L])::H,nx+1,0⟩):T2 C 128 [tS s L] ⟨H,nx,0⟩ Q:=by
 refine mP hC rfl rfl (fun _ _=>rfl) (cJ5 rfl) hq fun C' hh hn=>?_
 simp (disch:=try exact z0z) only[WA,simprocAttr,dA9,O3]
 exact .refl _ _
theorem aY8 {E:G3} (hE:E=EN w (n+2)) (s:Nat) (L:List u6) (A:List D) (j c:Nat) (i:Int) (x:u6) (hx:dZ x) (hA:A.length=c*4) (hj:j<c) (hc:c<=1000000) (v1 v2:V) (Q2:V->n9->Prop)
  (h1:Q2 (.sc (.bool true)) ⟨cW8 s L (A.take (j*4)++ [.sc (.int .u8 (uE x).kind),.sc (.bool (uE x).purl),.sc (.int .i64 (uE x).a),.sc (.int .i64 (uE x).b)]++A.drop (j*4+4)) (j+1) c,4,0⟩):
  sO E bD7 bD8 [(2,v1),(3,v2),(5,.ptr 1 0)] [20,21] 3 [iN i,uS x] ⟨cW8 s L A j c,4,0⟩ Q2:=by
 refine ⟨(by first|exact bA5 _|trivial),rfl,(by show (3:Nat)<4;decide),_,rfl,fun C4 hd h0=>?_⟩
 have hb:=hx.bounds
 rw[bN3 hx] at h1
 have h7:=MR w (n+1) x.kind hb.1 hb.2.1
 obtain ⟨k,p,a,b⟩:=x
 simp only at hb h7 h1
 unfold bY at h7
 simp only[cJ1,dL9] at h7
 generalize fS k=fs at*
 generalize fL k=fl at*
 have hg:=aS7 k
 generalize fB1 k=fb at*
 simp (disch:=try exact z0z) only[WA,simprocAttr,bD7]
 refine ⟨trivial,(by first|exact bA5 _|trivial),trivial,?_⟩
 simp (disch:=try exact z0z) only[WA,simprocAttr,bD8]
 refine m8 (by rw[hd,hE];exact h7.flat rfl rfl) ?_
 rcases hg with rfl|rfl<;>cases fs
 ·simp (disch:=try exact z0z) only[WA,simprocAttr,gE,iC,iE,cZ9,tn1,gt_iff_lt,Int.lt_irrefl,decide_false]
  all_goals try omega
  refine ⟨(by first|exact bA5 _|trivial),trivial,_,R9 [(3,3),(2,2),(1,1),(0,0)] 4 (by rw[h0];exact aQ5 _) rfl (by rw[h0];rfl) rfl rfl,?_⟩
  exact h1
 ·simp (disch:=try exact z0z) only[WA,simprocAttr,gE,iC,iE,cZ9,tn1,gt_iff_lt,Int.lt_irrefl,decide_false]
  all_goals try omega
  refine ⟨(by first|exact bA5 _|trivial),trivial,_,R9 [(3,3),(2,2),(1,1),(0,0)] 4 (by rw[h0];exact aQ5 _) rfl (by rw[h0];rfl) rfl rfl,?_⟩
  exact h1
 ·simp (disch:=try exact z0z) only[WA,simprocAttr,gE,iC,iE,cZ9,tn1,gt_iff_lt,Int.lt_irrefl,decide_false]
  all_goals try omega
  refine ⟨(by first|exact bA5 _|trivial),trivial,_,R9 [(3,3),(2,2),(1,1),(0,0)] 4 (by rw[h0];exact aQ5 _) rfl (by rw[h0];rfl) rfl rfl,?_⟩
  exact h1
 ·simp (disch:=try exact z0z) only[WA,simprocAttr,gE,iC,iE,cZ9,tn1,gt_iff_lt,Int.lt_irrefl,decide_false]
  all_goals try omega
  refine ⟨(by first|exact bA5 _|trivial),trivial,_,R9 [(3,3),(2,2),(1,1),(0,0)] 4 (by rw[h0];exact aQ5 _) rfl (by rw[h0];rfl) rfl rfl,?_⟩
  exact h1
end
theorem aX6 {H:E9} {o c t n:Nat} {g z:Bool} {l:List D} (h:j7 H o=some (.row t 4 g z l)) (hl:l.length=n*4):D1 H (.ref o 0 n c)=some (.sl 0 n l):=by
 simp only[D1,dS,h,cZ9,dD7]
 rw[aO9 (by omega)]
 show some (V.sl 0 n (l.take (n*4)))=_
 rw[cS6 (by omega)]
theorem bU1 (A:List u6) (y:u6) (c:Nat) (h:A.length<c):
  (I5 (A++List.replicate (c - A.length) sC)).take (A.length*4)++ [.sc (.int .u8 y.kind),.sc (.bool y.purl),.sc (.int .i64 y.a),.sc (.int .i64 y.b)]++(I5 (A++List.replicate (c - A.length) sC)).drop (A.length*4+4)=I5 ((A++ [y])++List.replicate (c - (A.length+1)) sC):=by
 have e:c - A.length=(c - (A.length+1))+1:=by omega
 rw[e,List.replicate_succ,WK,List.take_left' (E6 A),<- List.drop_drop,List.drop_left' (E6 A),WK,JY]
 rfl
def bU4 (L:List u6):List u6 × Int:=if M4 L=0 then (Q6 L,0) else ([],M4 L)
abbrev sfV (p:List u6 × Int):V:= .tup [tS 3 p.1,iN p.2]
section
variable (w:World) (n:Nat)
theorem cW9 (s:Nat) (L:List u6) (hL:L.length<=140737488351232) (hK:PD L):m0 (EN w (n+7)) 81 [tS s L] (sfV (bU4 L)) ⟨[],0,0⟩:=by
 have ha:=aB5 w n s L hL hK
 unfold bU4
 refine vG rfl aG fun C hC h0=>?_
 by_cases e:M4 L=0
 case neg=>
  rw[aQ4 e]
  generalize M4 L=E at*
  simp (disch:=try exact z0z) only[WA,simprocAttr,c81]
  refine cF hC ha ?_
  simp (disch:=try exact z0z) only[WA,simprocAttr,e]
  exact E2 h0 rfl
 rw[aO9 e]
 rw[e] at ha
 obtain ⟨l1,l2,_⟩:=mH e
 have h5:=fun nx t=>NL nx t L.length (by omega)
 have he:=E6 L
 simp (disch:=try exact z0z) only[WA,simprocAttr,c81]
 refine cF hC ha ?_
 simp (disch:=try exact z0z) only[WA,simprocAttr,h5]
 refine cP1 w (n+5) hC s L _ _ ?_
 simp (disch:=try exact z0z) only[WA,simprocAttr]
 refine MU hC rfl rfl rfl (cJ5 rfl) rfl (bA5 _) fun C2 hf h6 hg hh hT=>?_
 simp (disch:=try exact z0z) only[WA,simprocAttr,dB8]
 refine r5 (fun m fr st=>∃ (j:Nat),m=L.length - j/\j<=L.length/\fr= [(0,.tok 3),(1,.ptr 2 0),(3,iN ((L.length:Int) - 1 - j))]/\st=⟨cW8 s L (I5 ((L.reverse.take j).map uE++List.replicate (L.length - j) sC)) j L.length,4,0⟩) L.length ?_ ⟨_,_,.refl _ _,0,by omega,(by first|exact bA5 _|trivial),?_,rfl⟩ ?_
 ·rw[h6];unfold B6;omega
 ·simp
 rintro m fr st ⟨j,rfl,hj,rfl,rfl⟩
 by_cases h1:j<L.length
 case neg=>
  have:j=L.length:=by omega
  subst this
  have e:(L.reverse.take L.length).map uE=Q6 L:=by unfold Q6;rw[cS6 (by simp)]
  rw[e,Nat.sub_self,List.replicate_zero,dC9]
  have hl:=E6 (Q6 L)
  rw[bQ] at hl
  have h7:=bQ L
  generalize Q6 L=T at*
  simp (disch:=try exact z0z) only[WA,simprocAttr,YW]
  all_goals try omega
  refine ⟨fun i h=>(by cases h),(by first|exact bA5 _|trivial),0,.normal,rfl,rfl,?_⟩
  simp (disch:=try exact z0z) only[WA,simprocAttr]
  show K7 _ _ _ [(0,.tup [.sl 3 T.length (I5 T),iN 0])] _
  rw[h7]
  exact Y8 (aX6 rfl hl) rfl (.inl (by decide)) h0 rfl
 have h8:=sF L j h1
 have h9:=bP L (L.length - 1 - j) (by omega)
 have h2:((L.reverse.take j).map uE).length=j:=by rw[cZ0,cV7,List.length_reverse];omega
 have hb:((L.length:Int) - 1 - j)=((L.length - 1 - j:Nat):Int):=by omega
 have hc:((L.length:Int) - 1 - ((j+1:Nat):Int))=((L.length - 1 - j:Nat):Int) - 1:=by omega
 have hx:dZ L[L.length - 1 - j]! :=S8.1 (bB3.1 l2 _ (by rw[bA7 L _ (by omega)];exact cN3 _))
 have h3:=bU1 ((L.reverse.take j).map uE) (uE L[L.length - 1 - j]!) L.length (by omega)
 rw[<- h8,h2] at h3
 have hd:(I5 ((L.reverse.take j).map uE++List.replicate (L.length - j) sC)).length=L.length*4:=by rw[E6,bA4,h2,dL6];congr 1;omega
 have h4:=aY8 w (n+4) (E:=C.E) hC s L (I5 ((L.reverse.take j).map uE++List.replicate (L.length - j) sC)) j L.length ((L.length - 1 - j:Nat):Int) L[L.length - 1 - j]! hx hd h1 (by omega) (.sc (.slice none 0 0)) (iN 0)
 rw[h3] at h4
 rw[hb]
 have hi:L.length - 1 - j<L.length:=by omega
 generalize L[L.length - 1 - j]! =x at*
 generalize hk:L.length - 1 - j=i at*
 simp (disch:=try exact z0z) only[WA,simprocAttr,YW,h9]
 all_goals try omega
 refine hT _ _ _ (h4 _ ?_)
 simp (disch:=try exact z0z) only[WA,simprocAttr]
 exact ⟨L.length - (j+1),_,_,by omega,.refl _ _,j+1,rfl,by omega,by rw[hc],rfl⟩
end
theorem JJ:∀ {R:List (Bool × List u6)} {z:Int},W7 z R=0->∀ r ∈ R,M4 r.2=0
 | [],_,_,r,h=>by cases h
 |q::R,z,h,r,hr=>by
  by_cases h1:M4 q.2=0
  case neg=>rw[gF h1] at h;exact absurd h h1
  by_cases h2:H9 H2 q.2=z
  case neg=>rw[gH h1 h2] at h;cases h
  rw[gJ h1 h2] at h
  rcases bX5.1 hr with rfl|h3
  ·exact h1
  ·exact JJ h r h3
theorem N0 {c:ChT} (h:X5 c=0):c.2.length<=100/\0<=c.1/\c.1<=200/\W7 c.1 c.2=0:=by
 unfold X5 at h
 by_cases h1:100<c.2.length
 ·rw[aO9 h1] at h;cases h
 rw[aQ4 h1] at h
 by_cases h2:c.1<0\/200<c.1
 ·rw[aO9 h2] at h;cases h
 rw[aQ4 h2] at h
 exact ⟨by omega,by omega,by omega,h⟩
theorem QM {c:ChT} (h:X5 c=0) {i:Nat} (hi:i<c.2.length):M4 c.2[i]!.2=0:=JJ (N0 h).2.2.2 _ (by rw[bA7 c.2 i hi];exact cN3 hi)
section
variable (w:World) (n:Nat)
theorem bH5 (s k:Nat) (hs:s ≠ 1) (z:Int) (R:List (Bool × List u6)) (hK:fB R) (i:Nat) (hi:i<R.length) (h8:k=1\/k=2\/k=0\/0<R[i]!.2.length) (h4:X5 (z,R)=0):m0 (EN w (n+10)) 32 [O2 s k (z,R),iN i] (sfV (H5 R[i]!,0)) ⟨[],0,0⟩:=by
 have ha:=D9 k R
 have hR:=(N0 h4).1
 simp only at hR
 have h5:=sX w n s k hs z R (by omega) hK
 rw[h4] at h5
 have h6:=QM h4 hi
 simp only at h6
 obtain ⟨l1,l2,_⟩:=mH h6
 have h7:=hK.at hi
 have a0:=aX0 k R i hi
 have a1:=nH k R i hi
 generalize R[i]! =r at*
 obtain ⟨b,L⟩:=r
 simp only at*
 have ht:=cW9 w (n+2) k L h7.2 h7.1
 have h9:=aX4 w (n+8) k L (by omega) h8
 unfold bU4 at ht
 rw[aO9 h6] at ht
 refine vG rfl aG fun C hC h0=>?_
 unfold H5
 cases b with
 |true=>
  rw[aO9 rfl]
  simp only
  simp (disch:=try exact z0z) only[WA,simprocAttr,c32,a0,a1]
  refine cF hC h5 ?_
  simp (disch:=try exact z0z) only[WA,simprocAttr,a0,a1]
  all_goals try omega
  refine cN hC ht ?_
  simp (disch:=try exact z0z) only[WA,simprocAttr]
  exact o9 [] 0 h0 rfl rfl rfl rfl
 |false=>
  rw[aQ4 (fun h=>by cases h)]
  simp only
  simp (disch:=try exact z0z) only[WA,simprocAttr,c32,a0,a1]
  refine cF hC h5 ?_
  simp (disch:=try exact z0z) only[WA,simprocAttr,a0,a1]
  all_goals try omega
  refine cN hC h9 ?_
  repeat' (first|(simp (disch:=try exact z0z) only[WA,simprocAttr])|apply j8|((first|apply n7|apply m9|apply l8|apply n8|apply n6|apply l9)<;>intro _))
  exact o9 [] 0 h0 rfl rfl rfl rfl
end
abbrev z2:List Value:= [.bool false,.slice none 0 0]
def zrD (c:Nat):List D:=pN (rep z2 c)
theorem cJ4 (c:Nat):(zrD c).length=c*2:=by
 induction c with
 |zero=>rfl
 |succ m ih=>
  have e:zrD (m+1)=pN z2++zrD m:=by simp[zrD,rep,pN]
  rw[e,bA4,ih]
  show 2+m*2=(m+1)*2
  omega
theorem aW5 (m:Nat):(rep z2 m).all D2=true:=by
 induction m with
 |zero=>rfl
 |succ m ih=>
  have e:rep z2 (m+1)=z2++rep z2 m:=rfl
  rw[e,dD1,ih];rfl
theorem NK (nx t c:Nat) (hc:c<=1000000):Y3 nx t 2 32 z2 (.sc (.int .i64 c)) (.sc (.int .i64 c))=some (.ref nx 0 c c,some (.row t 2 false false (zrD c)),[]):=by
 simp only[Y3]
 rw[aO9 ⟨by omega,by omega,by unfold s9;omega,by unfold s9;omega,by rw[cJ2];exact aW5 c⟩,cJ2]
 rfl
theorem JL (k:Nat) (A B:List (Bool × List u6)):C3 k (A++B)=C3 k A++C3 k B:=by simp[C3]
theorem VM (k:Nat) (R:List (Bool × List u6)) (h:∀ r ∈ R,k ≠ 1\/r.2.length ≠ 0):Q1 (C3 k R)=true:=by
 induction R with
 |nil=>rfl
 |cons r R ih=>
  have e:C3 k (r::R)=xF k r++C3 k R:=by simp[C3]
  have h1:=ih fun x hx=>h x (cR3 _ hx)
  unfold Q1 at h1 ⊢
  rw[e,dD1,h1,dJ7]
  have:=h r (dB6 ..)
  simp only[xF,dD3,List.all_nil,EQ,dJ7,dE6,cW5,cL0,BC]
  exact this
theorem aF8 (A B:List D):sM (A++B)=sM A++sM B:=by
 induction A with
 |nil=>rfl
 |cons a A ih=>simp only[dI5,sM,ih]
theorem aF9 (A:List D):(sM A).length=A.length:=by
 induction A with
 |nil=>rfl
 |cons a A ih=>simp only[bK2,sM,ih]
theorem bW3 (ρ:List (Nat × Nat)) (A:List D):dW ρ (sM A)=sM A:=by
 induction A with
 |nil=>rfl
 |cons a A ih=>cases a<;>simp only[sM,dv,dW,Z1,ih]
def twD (k:Nat) (R:List (Bool × List u6)) (j:Nat):List D:=C3 0 (R.take j)++C3 k (R.drop j)
theorem cG6 (k:Nat) (R:List (Bool × List u6)) (j:Nat) (h:j<=R.length):(twD k R j).length=R.length*2:=by
 unfold twD
 rw[bA4,D9,D9,cV7,dC7]
 omega
theorem cX0 (k:Nat) (R:List (Bool × List u6)) (j:Nat) (h:j<R.length):twD k R j=C3 0 (R.take j)++ .sc (.bool R[j]!.1):: .sl k R[j]!.2.length (I5 R[j]!.2)::C3 k (R.drop (j+1)):=by
 unfold twD
 rw[fJ h]
 simp[C3,xF]
theorem bU6 (k:Nat) (R:List (Bool × List u6)) (j:Nat) (h:j<R.length):twD k R (j+1)=C3 0 (R.take j)++ .sc (.bool R[j]!.1):: .sl 0 R[j]!.2.length (I5 R[j]!.2)::C3 k (R.drop (j+1)):=by
 unfold twD
 rw[dD4 h,<- bA7 R j h,JL]
 simp[C3,xF]
theorem cG7 (k:Nat) (R:List (Bool × List u6)) (j:Nat) (h:j<R.length) (v:V):((sM (twD k R j)).set (j*2+1) v).set (j*2+1) (.sl 0 R[j]!.2.length (I5 R[j]!.2))=sM (twD k R (j+1)):=by
 have hl:(sM (C3 0 (R.take j))).length=j*2:=by rw[aF9,D9,cV7];congr 1;omega
 rw[List.set_set,cX0 k R j h,bU6 k R j h,aF8,aF8]
 generalize sM (C3 0 (R.take j))=A at*
 have e:∀ (t:List V) (u:V),(A++t).set (j*2+1) u=A++t.set 1 u:=fun t u=>by rw[List.set_append_right _ _ (by rw[hl];omega),hl,show j*2+1 - j*2=1 by omega]
 rw[e]
 rfl
section
variable (w:World) (n:Nat)
theorem cX1 (s k:Nat) (R:List (Bool × List u6)) (hR:R.length<=100) (hL:∀ r ∈ R,r.2.length ≠ 0/\r.2.length<=1000):m0 (EN w (n+1)) 88 [.sl s R.length (C3 k R)] (.sl 3 R.length (C3 0 R)) ⟨[],0,0⟩:=by
 have hk:=D9 k R
 have h5:=VM k R fun r hr=> .inr (hL r hr).1
 have h6:=fun nx t=>NK nx t R.length (by omega)
 have hm:=cJ4 R.length
 refine vG rfl nG fun C hC h0=>?_
 have h7:C.E.rounds=B6:=by rw[hC,k9]
 simp (disch:=try exact z0z) only[WA,simprocAttr,c88,h6]
 refine aI7 _ 1 0 2 0 R.length _ _ _ _ _ _ (by
  rw[sB _ _ _ _ _ (by omega)]
  exact QP _ 1 0 2 0 R.length _ 2 R.length _ (zrD R.length) (C3 k R) (by omega) (by omega) h5 (by omega)) ?_
 have h8:C3 k R++(zrD R.length).drop (C3 k R).length=twD k R 0:=by
  rw[dJ8 (by omega),dC9];rfl
 rw[h8]
 simp (disch:=try exact z0z) only[WA,simprocAttr]
 refine r5 (fun m fr st=>∃ (j:Nat),m=R.length - j/\j<=R.length/\fr= [(3,.ref 0 0 R.length R.length),(12,.sl s R.length (C3 k R)),(13,iN R.length),(14,iN j)]/\st=⟨[(0,.box 80 2 (sM (twD k R j)))],1,0⟩) R.length ?_ ⟨_,_,YA (o:=0) rfl,0,by omega,bA5 _,rfl,rfl⟩ ?_
 ·rw[h7];unfold B6;omega
 rintro m fr st ⟨j,rfl,hj,rfl,rfl⟩
 by_cases h2:j<R.length
 case neg=>
  have:j=R.length:=by omega
  subst this
  have e:twD k R R.length=C3 0 R:=by unfold twD;rw[dJ4,dJ6];simp[C3]
  rw[e]
  have h9:=VM 0 R fun r hr=> .inl (by decide)
  have ha:=D9 0 R
  simp (disch:=try exact z0z) only[WA,simprocAttr,bD9]
  all_goals try omega
  refine (XW (o:=0) rfl h9).trans ?_
  exact ZL (uP rfl ha) rfl (.inl (by decide)) h0 rfl
 have h3:=aH k R j h2
 have hb:=cG6 k R j hj
 have hd:=aF9 (twD k R j)
 rw[hb] at hd
 have L6:=cG7 k R j h2
 have he:=hL R[j]! (by rw[bA7 R j h2];exact cN3 h2)
 generalize R[j]! =r at*
 obtain ⟨b,L⟩:=r
 simp only at h3 L6 he
 have hf:=E6 L
 have hg:=OL L
 have hh:=fun nx t=>FB nx t L.length (by omega)
 generalize sM (twD k R j)=X at*
 have h4:∀ v:V,E1 (X.set (j*2+1) v) (j*2+1)=some v:=fun v=>by rw[y7,List.getElem?_set_self (by omega)]
 have hi:=E6 (List.replicate L.length sC)
 rw[dL6] at hi
 simp (disch:=try exact z0z) only[WA,simprocAttr,bD9,h3,hh,h4]
 all_goals try omega
 refine aI7 _ 3 0 4 2 L.length _ _ _ _ _ _ (by
  rw[sB _ _ _ _ _ (by omega)]
  exact QP _ 3 0 4 2 L.length _ 4 L.length _ _ (I5 L) (by omega) (by omega) hg (by omega)) ?_
 rw[dJ8 (by omega),dC9]
 simp (disch:=try exact z0z) only[WA,simprocAttr]
 refine ⟨R.length - (j+1),_,_,by omega,?_,j+1,rfl,by omega,rfl,rfl⟩
 refine (XY (o:=0) (g:=2) (k:=j*2+1) (u:= .ref 2 0 L.length L.length) (u':= .sl 0 L.length (I5 L)) rfl (by rw[<- y7];exact h4 _) rfl rfl (by decide) (bR7 rfl hf) rfl).trans ?_
 simp only[L6]
 exact o9 [(0,0)] 1 h0 rfl rfl rfl (by
  simp[uG,A3,D7,UZ,bW3,p5,n5,kF])
end
theorem aU0 (M:List E5) (k:Nat) (hk:k<=M.length):(H4 M).take (k*7)=H4 (M.take k):=by
 have h:H4 M=H4 (M.take k)++H4 (M.drop k):=by rw[<- lC,List.take_append_drop]
 rw[h,List.take_left' (by rw[G7,cV7];congr 1;omega)]
theorem aT9 (M:List E5) (k:Nat) (hk:k<=M.length):(H4 M).drop (k*7)=H4 (M.drop k):=by
 have h:H4 M=H4 (M.take k)++H4 (M.drop k):=by rw[<- lC,List.take_append_drop]
 rw[h,List.drop_left' (by rw[G7,cV7];congr 1;omega)]
theorem TA (M:List E5) (k:Nat) (x:E5) (hk:k<M.length):(H4 M).take (k*7)++ [.sc (.int .u8 x.op),.sc (.bool x.right),.sc (.int .u8 x.bed),.sc (.int .i64 x.pos),.sc (.int .i64 x.to),.sc (.int .i64 x.car),.sc (.int .i64 x.rack)]++(H4 M).drop (k*7+7)=H4 (M.set k x):=by
 rw[aU0 M k (by omega),show k*7+7=(k+1)*7 by omega,aT9 M (k+1) (by omega),<- Z4,<- lC,List.set_eq_take_append_cons_drop,aO9 hk]
 congr 1
 simp
def rv (L:List E5) (i:Nat):List E5:=(List.range L.length).map fun k=>if k<i\/L.length - i<=k then L[L.length - 1 - k]! else L[k]!
theorem aL (L:List E5) (i:Nat):(rv L i).length=L.length:=by simp[rv]
theorem CR (L:List E5) (i k:Nat) (hk:k<L.length):(rv L i)[k]! =if k<i\/L.length - i<=k then L[L.length - 1 - k]! else L[k]! :=by
 rw[bA7 _ k (by rw[aL];exact hk)]
 simp[rv]
theorem cF2 (L:List E5):rv L 0=L:=oX (aL L 0) fun k hk=>by rw[CR L 0 k hk,aQ4 (by omega)]
theorem aN9 (L:List E5) (k:Nat) (hk:k<L.length):L.reverse[k]! =L[L.length - 1 - k]! :=by
 rw[bA7 _ k (by simpa using hk),List.getElem_reverse,bA7 L (L.length - 1 - k) (by omega)]
theorem cV8 (L:List E5) (i:Nat) (h:L.length<=2*i+1):rv L i=L.reverse:=oX (by rw[aL];simp) fun k hk=>by
 rw[List.length_reverse] at hk
 rw[CR L i k hk,aN9 L k hk]
 by_cases h1:k<i\/L.length - i<=k
 ·rw[aO9 h1]
 ·rw[aQ4 h1]
  congr 1
  omega
theorem cF1 (L:List E5) (i:Nat) (h:i+i+1<L.length):((rv L i).set i L[L.length - 1 - i]!).set (L.length - 1 - i) L[i]! =rv L (i+1):=oX (by simp[aL]) fun k hk=>by
 rw[aL] at hk
 rw[CR L (i+1) k hk,bA7 _ k (by simp[aL];exact hk),List.getElem_set,List.getElem_set]
 by_cases h1:L.length - 1 - i=k
 ·rw[aO9 h1,aO9 (by omega)]
  congr 1
  omega
 rw[aQ4 h1]
 by_cases h2:i=k
 ·subst h2
  rw[aO9 rfl,aO9 (by omega)]
 rw[aQ4 h2]
 have:=CR L i k hk
 rw[bA7 _ k (by rw[aL];exact hk)] at this
 rw[this]
 by_cases h3:k<i\/L.length - i<=k
 ·rw[aO9 h3,aO9 (by omega)]
 ·rw[aQ4 h3,aQ4 (by omega)]
section
variable (w:World) (n:Nat)
theorem aW7 {C:C8} {Q:V->n9->Prop} (hC:C.E=EN w (n+1)) (L:List E5) (hL:L.length<=1000000) (H:E9) (o nx:Nat) (hq:Q (.tup []) ⟨(o,.gro 54 7 false (H4 L.reverse))::H,nx,0⟩):
  T2 C 78 [.gr 2 o L.length] ⟨(o,.gro 54 7 false (H4 L))::H,nx,0⟩ Q:=by
 refine mP hC rfl rfl (fun _ _=>rfl) (cJ5 rfl) hq fun C' h0 hn=>?_
 simp (disch:=try exact z0z) only[WA,simprocAttr,c78]
 refine r5 (fun m fr st=>∃ (i:Nat),m=L.length - i/\i<=L.length/\fr= [(0,.gr 2 o L.length),(2,iN i),(3,iN ((L.length:Int) - 1 - i))]/\st=⟨(o,.gro 54 7 false (H4 (rv L i)))::H,nx,0⟩) L.length ?_ ⟨_,_,.refl _ _,0,by omega,bA5 _,by simp,by rw[cF2]⟩ ?_
 ·rw[h0,k9];unfold B6;omega
 rintro m fr st ⟨i,rfl,hi,rfl,rfl⟩
 by_cases h4:i+i+1<L.length
 case neg=>
  rw[cV8 L i (by omega)]
  simp (disch:=try exact z0z) only[WA,simprocAttr,aF0]
  all_goals try omega
  exact .refl _ _
 have h5:=cF1 L i h4
 have h6:=G7 (rv L i)
 have a1:=SY (rv L i) i (by rw[aL];omega)
 have a2:=SY (rv L i) (L.length - 1 - i) (by rw[aL];omega)
 rw[CR L i _ (by omega),aQ4 (by omega)] at a1 a2
 have p1:=TA (rv L i) i L[L.length - 1 - i]! (by rw[aL];omega)
 have p2:=TA ((rv L i).set i L[L.length - 1 - i]!) (L.length - 1 - i) L[i]! (by simp[aL];omega)
 have h7:=G7 ((rv L i).set i L[L.length - 1 - i]!)
 rw[h5] at p2
 rw[aL] at h6
 rw[List.length_set,aL] at h7
 have h8:((L.length:Int) - 1 - i)=((L.length - 1 - i:Nat):Int):=by omega
 have h9:((L.length:Int) - 1 - ((i+1:Nat):Int))=((L.length - 1 - i:Nat):Int) - 1:=by omega
 rw[h8]
 have ha:L.length - 1 - i<L.length:=by omega
 have hb:i<L.length - 1 - i:=by omega
 unfold L2 at a1 a2
 generalize H4 ((rv L i).set i L[L.length - 1 - i]!)=B at*
 generalize H4 (rv L i)=A at*
 generalize L[L.length - 1 - i]! =y at*
 generalize L[i]! =x at*
 obtain ⟨xo,xr,xb,xp,xt,xc,xk⟩:=x
 obtain ⟨yo,yr,yb,yp,yt,yc,yk⟩:=y
 simp only[EZ,cJ1,dL9] at a1 a2 p1 p2
 generalize hc:L.length - 1 - i=j at*
 repeat' (first|(simp (disch:=try exact z0z) only[WA,simprocAttr,aF0,a1,a2,aZ0,iP,ZG,p1,bS9,p2])|apply j8)
 all_goals try omega
 exact ⟨L.length - (i+1),_,_,by omega,.refl _ _,i+1,rfl,by omega,by rw[h9];rfl,rfl⟩
end
def bN (b:Bool):Nat:=if b then 1 else 0
def M7 (B:List Bool):List D:=B.map fun b=> .sc (.int .u8 (bN b))
def B7 (B:List Bool) (F:List u6) (j:Nat):List Bool:=(List.range B.length).map fun k=>if k<j/\F[k]!.kind=1 then F[k]!.purl else B[k]!
def xfP (B:List Bool) (F:List u6) (k:Nat):Bool:=decide (F[k]!.kind=1) && (B[k]! !=F[k]!.purl)
def xfI (B:List Bool) (k:Nat):E5:=⟨7,false,bN B[k]!,k,k,0,0⟩
def xf (B:List Bool) (F:List u6) (j:Nat):List E5:=((List.range j).filter (xfP B F)).map (xfI B)
def rwI (odd:Bool) (B:List Bool) (F:List u6) (k:Nat):E5:=⟨if F[k]!.kind=1 then 3 else 5,odd,bN B[k]!,k,0,1,0⟩
def uL (odd:Bool) (B:List Bool) (F:List u6) (j:Nat):List E5:=(List.range j).map (rwI odd B F)
def qM (i:Nat) (L:List E5):List E5:=if i % 2=0 then L.reverse else L
def rS (i:Nat) (B:List Bool) (F:List u6):List E5:=xf B F F.length++qM i (uL (decide (i % 2=1)) (B7 B F F.length) F F.length)
def eN:Nat->List Bool->List (Bool × List u6)->List E5
 |_,_,[]=> []
 |i,B,r::R=>rS i B (H5 r)++eN (i+1) (B7 B (H5 r) (H5 r).length) R
def cK6 (k:Nat):E5:=⟨3,true,0,k,0,1,0⟩
def in1:E5:=⟨1,false,0,0,0,1,0⟩
def L0 (k:Nat):List E5:=in1::(List.range k).map cK6
def A9 (z:Nat) (R:List (Bool × List u6)):List E5:=L0 z++eN 0 (List.replicate z false) R
def T3 (c:ChT):List E5 × Int:=if X5 c ≠ 0 then ([],X5 c) else if xC c=true then (if 2000<(A9 c.1.toNat c.2).length then ([],4) else (A9 c.1.toNat c.2,0)) else ([],2)
theorem I3 (B:List Bool) (F:List u6) (j:Nat):(B7 B F j).length=B.length:=by simp[B7]
theorem X4 (B:List Bool) (F:List u6) (j k:Nat) (hk:k<B.length):(B7 B F j)[k]! =if k<j/\F[k]!.kind=1 then F[k]!.purl else B[k]! :=by
 rw[bA7 _ k (by rw[I3];exact hk)]
 simp[B7]
theorem iT {a l:List Bool} (h:a.length=l.length) (ha:∀ j,j<l.length->a[j]! =l[j]!):a=l:=by
 apply List.ext_getElem h
 intro j h1 h2
 have:=ha j h2
 rwa [bA7 a j h1,bA7 l j h2] at this
theorem FT (B:List Bool) (F:List u6):B7 B F 0=B:=iT (I3 B F 0) fun k hk=>by rw[X4 B F 0 k hk,aQ4 (by omega)]
theorem aO2 (B:List Bool) (j k:Nat) (b:Bool) (hk:k<B.length):(B.set j b)[k]! =if j=k then b else B[k]! :=by
 rw[bA7 _ k (by simpa using hk),List.getElem_set,bA7 B k hk]
theorem FS (B:List Bool) (F:List u6) (j:Nat) (hj:j<B.length) (h:F[j]!.kind=1):B7 B F (j+1)=(B7 B F j).set j F[j]!.purl:=iT (by simp[I3]) fun k hk=>by
 have h0:k<B.length:=by simpa [I3] using hk
 rw[X4 B F (j+1) k h0,aO2 _ _ _ _ (by rw[I3];exact h0),X4 B F j k h0]
 by_cases e:j=k
 ·subst e;rw[aO9 rfl,aO9 ⟨by omega,h⟩]
 ·rw[aQ4 e]
  by_cases h2:k<j/\F[k]!.kind=1
  ·rw[aO9 h2,aO9 ⟨by omega,h2.2⟩]
  ·rw[aQ4 h2,aQ4 (fun h3=>h2 ⟨by omega,h3.2⟩)]
theorem sS (B:List Bool) (F:List u6) (j:Nat) (hj:j<B.length) (h:F[j]!.kind ≠ 1):B7 B F (j+1)=B7 B F j:=iT (by simp[I3]) fun k hk=>by
 have h0:k<B.length:=by simpa [I3] using hk
 rw[X4 B F (j+1) k h0,X4 B F j k h0]
 by_cases h2:k<j/\F[k]!.kind=1
 ·rw[aO9 h2,aO9 ⟨by omega,h2.2⟩]
 ·rw[aQ4 h2,aQ4 (fun h3=>h2 ⟨by rcases Nat.lt_succ_iff_lt_or_eq.1 h3.1 with h4|rfl;exact h4;exact absurd h3.2 h,h3.2⟩)]
theorem LM (B:List Bool) (F:List u6) (j:Nat) (hj:j<B.length):(B7 B F j)[j]! =B[j]! :=by rw[X4 B F j j hj,aQ4 (by omega)]
theorem bC5 (B:List Bool) (F:List u6) (j m:Nat) (hj:j<B.length) (hm:j<m):(B7 B F (j+1))[j]! =(B7 B F m)[j]! :=by
 rw[X4 B F (j+1) j hj,X4 B F m j hj]
 by_cases h:F[j]!.kind=1
 ·rw[aO9 ⟨by omega,h⟩,aO9 ⟨hm,h⟩]
 ·rw[aQ4 (fun x=>h x.2),aQ4 (fun x=>h x.2)]
theorem bX4 (B:List Bool) (F:List u6) (j:Nat) (h:xfP B F j=true):xf B F (j+1)=xf B F j++ [xfI B j]:=by
 unfold xf
 rw[List.range_succ,List.filter_append,dK6]
 simp[h]
theorem cO0 (B:List Bool) (F:List u6) (j:Nat) (h:xfP B F j=false):xf B F (j+1)=xf B F j:=by
 unfold xf
 rw[List.range_succ,List.filter_append,dK6]
 simp[h]
theorem bR3 (odd:Bool) (B:List Bool) (F:List u6) (j:Nat):uL odd B F (j+1)=uL odd B F j++ [rwI odd B F j]:=by
 unfold uL
 rw[List.range_succ,dK6];rfl
theorem V6 (odd:Bool) (B:List Bool) (F:List u6) (j:Nat):(uL odd B F j).length=j:=by simp[uL]
theorem EO (B:List Bool) (F:List u6) (j:Nat):(xf B F j).length<=j:=by
 unfold xf
 rw[cZ0]
 exact dJ2 (List.length_filter_le _ _) (by simp)
theorem QZ (i:Nat) (L:List E5):(qM i L).length=L.length:=by unfold qM;split<;>simp
theorem VL (i:Nat) (B:List Bool) (F:List u6):(rS i B F).length<=F.length+F.length:=by
 unfold rS
 rw[bA4,QZ,V6]
 have:=EO B F F.length
 omega
theorem cP (k:Nat):(L0 k).length=k+1:=by simp[L0]
theorem YZ (k:Nat):L0 (k+1)=L0 k++ [cK6 k]:=by
 unfold L0
 rw[List.range_succ,dK6];rfl
theorem qE (B:List Bool):(M7 B).length=B.length:=by simp[M7]
theorem PV (B:List Bool) (j:Nat) (b:Bool):(M7 B).set j (.sc (.int .u8 (bN b)))=M7 (B.set j b):=by simp[M7,List.map_set]
theorem xK (B:List Bool) (j:Nat) (hj:j<B.length):C0 (M7 B) j none=some (.sc (.int .u8 (bN B[j]!))):=by
 unfold M7
 rw[mR _ _ _ hj,bA7 B j hj]
 rfl
theorem gN (r:Bool × List u6):(H5 r).length=r.2.length:=by unfold H5;split;exact bQ _;rfl
theorem DI:∀ {L:List u6},L.all P0=true->H9 H2 L=L.length/\H9 L3 L=L.length
 | [],_=>⟨rfl,rfl⟩
 |x::L,h=>by
  rw[dD3,aO3] at h
  obtain ⟨i1,i2⟩:=DI h.2
  have hx:H2 x=1/\L3 x=1:=by
   obtain ⟨k,p,a,b⟩:=x
   have:=h.1
   unfold P0 at this
   simp only[cT5] at this
   rcases this with rfl|rfl<;>simp[H2,L3]
  simp only[H9,hx.1,hx.2,i1,i2,bK2]
  constructor<;>omega
theorem JK:∀ {R:List (Bool × List u6)} {z:Int},W7 z R=0->Z6 R=true->∀ r ∈ R,(r.2.length:Int)=z
 | [],_,_,_,r,h=>by cases h
 |q::R,z,h,hp,r,hr=>by
  by_cases h1:M4 q.2=0
  case neg=>rw[gF h1] at h;exact absurd h h1
  by_cases h2:H9 H2 q.2=z
  case neg=>rw[gH h1 h2] at h;cases h
  rw[gJ h1 h2] at h
  have h5:q.2.all P0=true/\Z6 R=true:=by
   have:(q.2.all P0 && Z6 R)=true:=hp
   simpa using this
  obtain ⟨s1,s2⟩:=DI h5.1
  rcases bX5.1 hr with rfl|h3
  ·rw[<- h2,s1]
  ·rw[JK h h5.2 r h3,s2,<- s1,h2]
theorem JP {r:Bool × List u6} (h:r.2.all P0=true):(H5 r).all P0=true:=by
 unfold H5
 split
 ·unfold Q6
  rw[List.all_map,List.all_reverse]
  rw[bB3] at h ⊢
  intro x hx
  exact h x hx
 ·exact h
theorem CL {R:List (Bool × List u6)} {i:Nat} {B:List Bool} (hi:i<R.length):eN i B (R.drop i)=rS i B (H5 R[i]!)++eN (i+1) (B7 B (H5 R[i]!) (H5 R[i]!).length) (R.drop (i+1)):=by
 rw[fJ hi];rfl
theorem sR (i:Nat) (h:i<1000000) (r:Int) (hr:((i % 2:Nat):Int)=r):K8 .and (.int .i64 i) (.int .i64 1)=some (.int .i64 r):=by
 subst hr
 have h1:(BitVec.ofInt 64 (i:Int) &&& BitVec.ofInt 64 1).toNat=i % 2:=by
  rw[BitVec.toNat_and,BitVec.toNat_ofInt,BitVec.toNat_ofInt]
  rw[show ((1:Int) % ((2 ^ 64:Nat):Int)).toNat=2 ^ 1 - 1 by decide,Nat.and_two_pow_sub_one_eq_mod]
  rw[show ((i:Int) % ((2 ^ 64:Nat):Int)).toNat=i by omega]
 simp only[K8,if_true]
 show some (Value.int .i64 (IntKind.i64.wrap ((BitVec.ofInt 64 (i:Int) &&& BitVec.ofInt 64 1).toNat:Int)))=_
 rw[h1]
 congr 2
 simp[IntKind.wrap,IntKind.bits,IntKind.signed]
 omega
theorem bC2 (i:Nat) (r:Int) (hr:((i % 2:Nat):Int)=r):K8 .rem (.int .i64 i) (.int .i64 2)=some (.int .i64 r):=by
 subst hr
 simp only[K8,if_true]
 rw[aQ4 (by decide)]
 rw[Int.tmod_eq_emod_of_nonneg (by omega)]
 rfl
abbrev L7 (L:List E5):Itp.Obj:= .gro 54 7 false (H4 L)
abbrev iF (B:List Bool):Itp.Obj:= .row 5 1 false false (M7 B)
section
variable (w:World) (n:Nat)
theorem bZ9 {C:C8} (hC:C.E=EN w (n+1)) (h0:C.w0.nx=0) (z:Int) (s k:Nat) (R:List (Bool × List u6)) (rl:Int) (i:Nat) (hi:i<1000000) (B:List Bool) (F:List u6) (acc:List E5) (hF:F.length=B.length) (hp:F.all P0=true) (g7:F.length<=1000) (g8:acc.length<=1000000) (v55:V) (hs:v55= .sc (.bool false)) (zB:Nat) (ht:B.length=zB) {K:List KF} {P:B9}
  (hm:gK C K (.exit 4) [(1,.ptr 0 0),(5,.gr 2 1 (acc++xf B F F.length).length),(7,.ref 2 0 zB zB),(8,iN i),(11,.gr 2 3 F.length),(42,iN rl),(43,iN i),(52,tS 3 F),(53,iN F.length),(54,iN F.length),(55,v55)]
   ⟨[(3,L7 (uL (decide (i % 2=1)) (B7 B F F.length) F F.length)),(2,iF (B7 B F F.length)),(1,L7 (acc++xf B F F.length)),(0,dY z s k R)],4,0⟩ P):
  gL C [1,5,7,8,11,42,43,52,53,54] bC K [(1,.ptr 0 0),(5,.gr 2 1 acc.length),(7,.ref 2 0 zB zB),(8,iN i),(11,.gr 2 3 0),(42,iN rl),(43,iN i),(52,tS 3 F),(53,iN F.length),(54,iN 0)]
   ⟨[(3,L7 []),(2,iF B),(1,L7 acc),(0,dY z s k R)],4,0⟩ P:=by
 subst ht
 have hu:C.E.rounds=B6:=by rw[hC,k9]
 have g9':=E6 F
 have hv:∃ od:Bool,decide (i % 2=1)=od/\K8 .and (.int .i64 i) (.int .i64 1)=some (.int .i64 (if od then 1 else 0)):=by
  rcases Nat.mod_two_eq_zero_or_one i with h|h
  ·exact ⟨false,by rw[h];rfl,sR i hi 0 (by rw[h];rfl)⟩
  ·exact ⟨true,by rw[h];rfl,sR i hi 1 (by rw[h];rfl)⟩
 obtain ⟨od,ho,h7⟩:=hv
 rw[ho] at hm
 clear ho
 refine r5 (fun m fr st=>∃ j:Nat,m=F.length - j/\j<=F.length/\fr= [(1,.ptr 0 0),(5,.gr 2 1 (acc++xf B F j).length),(7,.ref 2 0 B.length B.length),(8,iN i),(11,.gr 2 3 j),(42,iN rl),(43,iN i),(52,tS 3 F),(53,iN F.length),(54,iN j)]/\
  st=⟨[(3,L7 (uL od (B7 B F F.length) F j)),(2,iF (B7 B F j)),(1,L7 (acc++xf B F j)),(0,dY z s k R)],4,0⟩) F.length ?_ ⟨_,_,.refl _ _,0,by omega,bA5 _,by simp[xf],by simp[xf,uL,FT]⟩ ?_
 ·rw[hu];unfold B6;omega
 rintro mm fr st ⟨j,rfl,hj,rfl,rfl⟩
 by_cases hg:j<F.length
 case neg=>
  have:j=F.length:=by omega
  subst this
  subst hs
  simp (disch:=try exact z0z) only[WA,simprocAttr,bC]
  exact hm
 have hb:j<B.length:=by omega
 have h8:=bP F j hg
 have h6:=xK (B7 B F j) j (by rw[I3];exact hb)
 rw[LM B F j hb] at h6
 have hw:=qE (B7 B F j)
 rw[I3] at hw
 have hx:=bC5 B F j F.length hb hg
 have h9:=xK (B7 B F (j+1)) j (by rw[I3];exact hb)
 rw[hx] at h9
 have hy:=qE (B7 B F (j+1))
 rw[I3] at hy
 have hh:=bR3 od (B7 B F F.length) F j
 have h3:=Z4 (uL od (B7 B F F.length) F j) (rwI od (B7 B F F.length) F j)
 rw[<- hh] at h3
 have hz:=G7 (uL od (B7 B F F.length) F j)
 rw[V6] at hz
 have ga:=G7 (acc++xf B F j)
 have gb:=EO B F j
 have gc:(acc++xf B F j).length<=1001000:=by rw[bA4];omega
 have g0:=Z4 (acc++xf B F j) (xfI B j)
 have g1:=fun b=>PV (B7 B F j) j b
 have g2:=FS B F j hb
 have g3:=sS B F j hb
 have hc:=bX4 B F j
 have hd:=cO0 B F j
 have g4:P0 F[j]! =true:=bB3.1 hp _ (by rw[bA7 F j hg];exact cN3 hg)
 unfold xfP at hc hd
 unfold rwI at h3 hh
 unfold xfI at g0
 have hn:(B7 B F F.length)[j]! =if F[j]!.kind=1 then F[j]!.purl else B[j]! :=by rw[X4 _ _ _ _ hb];simp[hg]
 clear hm g3
 rw[hn] at h3 hh h9
 generalize g5:F[j]! =x at*
 obtain ⟨xk,xp,xa,xb⟩:=x
 have hk:xk=1\/xk=8:=by simpa [P0] using g4
 have hq:=sS B F j hb
 rw[g5] at hq
 generalize g6:B[j]! =b0 at*
 rcases hk with rfl|rfl
 ·have hf:=g2 rfl
  simp only[if_true] at h3 hh hn hc hd h9
  simp only[decide_true,dE6] at hc hd
  have ha:=g1 xp
  rw[<- hf] at ha
  have hl:(bne b0 xp)=true->H4 (acc++xf B F (j+1))=H4 (acc++xf B F j)++ [.sc (.int .u8 7),.sc (.bool false),.sc (.int .u8 (bN b0)),.sc (.int .i64 j),.sc (.int .i64 j),.sc (.int .i64 0),.sc (.int .i64 0)]:=fun h=>by
   rw[hc h,<- bL9,Z4]
   unfold xfI
   rw[g6]
   rfl
  cases xp<;>cases b0<;>cases od
  ·have h4:(M7 (B7 B F j)).set j (.sc (.int .u8 0))=M7 (B7 B F (j+1)):=ha
   have h5:C0 (M7 (B7 B F (j+1))) j none=some (.sc (.int .u8 0)):=h9
   have h2:=hd rfl
   simp (disch:=try exact z0z) only[WA,simprocAttr,bC,h8,h6,bN,z6,h7,h4,h5]
   all_goals try omega
   refine ⟨F.length - (j+1),_,_,by omega,o9 [(6,3),(2,2),(1,1),(0,0)] 4 h0 rfl rfl rfl rfl,j+1,rfl,by omega,?_,?_⟩
   ·rw[h2];rfl
   ·simp only[L7];rw[h3,h2];rfl
  ·have h4:(M7 (B7 B F j)).set j (.sc (.int .u8 0))=M7 (B7 B F (j+1)):=ha
   have h5:C0 (M7 (B7 B F (j+1))) j none=some (.sc (.int .u8 0)):=h9
   have h2:=hd rfl
   simp (disch:=try exact z0z) only[WA,simprocAttr,bC,h8,h6,bN,z6,h7,h4,h5]
   all_goals try omega
   refine ⟨F.length - (j+1),_,_,by omega,o9 [(6,3),(2,2),(1,1),(0,0)] 4 h0 rfl rfl rfl rfl,j+1,rfl,by omega,?_,?_⟩
   ·rw[h2];rfl
   ·simp only[L7];rw[h3,h2];rfl
  ·have h4:(M7 (B7 B F j)).set j (.sc (.int .u8 0))=M7 (B7 B F (j+1)):=ha
   have h5:C0 (M7 (B7 B F (j+1))) j none=some (.sc (.int .u8 0)):=h9
   have h2:=hc rfl
   have he:(acc++xf B F (j+1)).length=(acc++xf B F j).length+1:=by rw[h2,<- bL9,bA4];rfl
   simp (disch:=try exact z0z) only[WA,simprocAttr,bC,h8,h6,bN,z6,h7,h4,h5]
   all_goals try omega
   refine ⟨F.length - (j+1),_,_,by omega,o9 [(8,3),(2,2),(6,1),(0,0)] 4 h0 rfl rfl rfl rfl,j+1,rfl,by omega,?_,?_⟩
   ·rw[he];rfl
   ·simp only[L7];rw[h3,hl rfl];rfl
  ·have h4:(M7 (B7 B F j)).set j (.sc (.int .u8 0))=M7 (B7 B F (j+1)):=ha
   have h5:C0 (M7 (B7 B F (j+1))) j none=some (.sc (.int .u8 0)):=h9
   have h2:=hc rfl
   have he:(acc++xf B F (j+1)).length=(acc++xf B F j).length+1:=by rw[h2,<- bL9,bA4];rfl
   simp (disch:=try exact z0z) only[WA,simprocAttr,bC,h8,h6,bN,z6,h7,h4,h5]
   all_goals try omega
   refine ⟨F.length - (j+1),_,_,by omega,o9 [(8,3),(2,2),(6,1),(0,0)] 4 h0 rfl rfl rfl rfl,j+1,rfl,by omega,?_,?_⟩
   ·rw[he];rfl
   ·simp only[L7];rw[h3,hl rfl];rfl
  ·have h4:(M7 (B7 B F j)).set j (.sc (.int .u8 1))=M7 (B7 B F (j+1)):=ha
   have h5:C0 (M7 (B7 B F (j+1))) j none=some (.sc (.int .u8 1)):=h9
   have h2:=hc rfl
   have he:(acc++xf B F (j+1)).length=(acc++xf B F j).length+1:=by rw[h2,<- bL9,bA4];rfl
   simp (disch:=try exact z0z) only[WA,simprocAttr,bC,h8,h6,bN,z6,h7,h4,h5]
   all_goals try omega
   refine ⟨F.length - (j+1),_,_,by omega,o9 [(8,3),(2,2),(6,1),(0,0)] 4 h0 rfl rfl rfl rfl,j+1,rfl,by omega,?_,?_⟩
   ·rw[he];rfl
   ·simp only[L7];rw[h3,hl rfl];rfl
  ·have h4:(M7 (B7 B F j)).set j (.sc (.int .u8 1))=M7 (B7 B F (j+1)):=ha
   have h5:C0 (M7 (B7 B F (j+1))) j none=some (.sc (.int .u8 1)):=h9
   have h2:=hc rfl
   have he:(acc++xf B F (j+1)).length=(acc++xf B F j).length+1:=by rw[h2,<- bL9,bA4];rfl
   simp (disch:=try exact z0z) only[WA,simprocAttr,bC,h8,h6,bN,z6,h7,h4,h5]
   all_goals try omega
   refine ⟨F.length - (j+1),_,_,by omega,o9 [(8,3),(2,2),(6,1),(0,0)] 4 h0 rfl rfl rfl rfl,j+1,rfl,by omega,?_,?_⟩
   ·rw[he];rfl
   ·simp only[L7];rw[h3,hl rfl];rfl
  ·have h4:(M7 (B7 B F j)).set j (.sc (.int .u8 1))=M7 (B7 B F (j+1)):=ha
   have h5:C0 (M7 (B7 B F (j+1))) j none=some (.sc (.int .u8 1)):=h9
   have h2:=hd rfl
   simp (disch:=try exact z0z) only[WA,simprocAttr,bC,h8,h6,bN,z6,h7,h4,h5]
   all_goals try omega
   refine ⟨F.length - (j+1),_,_,by omega,o9 [(6,3),(2,2),(1,1),(0,0)] 4 h0 rfl rfl rfl rfl,j+1,rfl,by omega,?_,?_⟩
   ·rw[h2];rfl
   ·simp only[L7];rw[h3,h2];rfl
  ·have h4:(M7 (B7 B F j)).set j (.sc (.int .u8 1))=M7 (B7 B F (j+1)):=ha
   have h5:C0 (M7 (B7 B F (j+1))) j none=some (.sc (.int .u8 1)):=h9
   have h2:=hd rfl
   simp (disch:=try exact z0z) only[WA,simprocAttr,bC,h8,h6,bN,z6,h7,h4,h5]
   all_goals try omega
   refine ⟨F.length - (j+1),_,_,by omega,o9 [(6,3),(2,2),(1,1),(0,0)] 4 h0 rfl rfl rfl rfl,j+1,rfl,by omega,?_,?_⟩
   ·rw[h2];rfl
   ·simp only[L7];rw[h3,h2];rfl
 ·have hf:=hq (fun h=>by cases h)
  simp only[show ¬ (8:Nat)=1 by decide,if_false] at h3 hh hn h9
  have h2:=hd (by simp)
  cases xp<;>cases od
  ·simp (disch:=try exact z0z) only[WA,simprocAttr,bC,h8,h6,z6,h7]
   all_goals try omega
   refine ⟨F.length - (j+1),_,_,by omega,o9 [(6,3),(2,2),(1,1),(0,0)] 4 h0 rfl rfl rfl rfl,j+1,rfl,by omega,?_,?_⟩
   ·rw[h2];rfl
   ·simp only[L7];rw[h3,h2,hf];rfl
  ·simp (disch:=try exact z0z) only[WA,simprocAttr,bC,h8,h6,z6,h7]
   all_goals try omega
   refine ⟨F.length - (j+1),_,_,by omega,o9 [(6,3),(2,2),(1,1),(0,0)] 4 h0 rfl rfl rfl rfl,j+1,rfl,by omega,?_,?_⟩
   ·rw[h2];rfl
   ·simp only[L7];rw[h3,h2,hf];rfl
  ·simp (disch:=try exact z0z) only[WA,simprocAttr,bC,h8,h6,z6,h7]
   all_goals try omega
   refine ⟨F.length - (j+1),_,_,by omega,o9 [(6,3),(2,2),(1,1),(0,0)] 4 h0 rfl rfl rfl rfl,j+1,rfl,by omega,?_,?_⟩
   ·rw[h2];rfl
   ·simp only[L7];rw[h3,h2,hf];rfl
  ·simp (disch:=try exact z0z) only[WA,simprocAttr,bC,h8,h6,z6,h7]
   all_goals try omega
   refine ⟨F.length - (j+1),_,_,by omega,o9 [(6,3),(2,2),(1,1),(0,0)] 4 h0 rfl rfl rfl rfl,j+1,rfl,by omega,?_,?_⟩
   ·rw[h2];rfl
   ·simp only[L7];rw[h3,h2,hf];rfl
end
theorem cB5 {C:C8} {ks:List Nat} {b:AC} {K:List KF} {fr fr':D0} {st st':n9} {P:B9} (hw:K7 C fr st fr' st') (h:gL C ks b K fr' st' P):gL C ks b K fr st P:=fun frI s hr=>h frI s (hw s frI hr)
theorem dP {z:Nat} {R:List (Bool × List u6)} (h4:X5 ((z:Int),R)=0) (h3:Z6 R=true) {i:Nat} (hi:i<R.length):R[i]!.2.length=z:=by
 have:=JK (N0 h4).2.2.2 h3 R[i]! (by rw[bA7 R i hi];exact cN3 hi)
 simp only at this
 omega
theorem CN {R:List (Bool × List u6)} (h3:Z6 R=true) {i:Nat} (hi:i<R.length):R[i]!.2.all P0=true:=bB3.1 h3 R[i]! (by rw[bA7 R i hi];exact cN3 hi)
section
variable (w:World) (n:Nat)
theorem bE6 {C:C8} (hC:C.E=EN w (n+10)) (h0:C.w0.nx=0) (z:Nat) (hz:0<z) (hn:z<=101) (s k:Nat) (hs:s ≠ 1) (R:List (Bool × List u6)) (hK:fB R) (h4:X5 ((z:Int),R)=0) (h3:Z6 R=true) {K:List KF} {P:B9}
  (h6:∀ B:List Bool,gK C K (.exit 2) [(1,.ptr 0 0),(5,.gr 2 1 (A9 z R).length),(7,.ref 2 0 z z),(42,iN R.length),(43,iN R.length),(44,.sc (.bool false))] ⟨[(2,iF B),(1,L7 (A9 z R)),(0,dY z s k R)],3,0⟩ P):
  gL C [1,5,7,42,43] FZ K [(1,.ptr 0 0),(5,.gr 2 1 (L0 z).length),(7,.ref 2 0 z z),(42,iN R.length),(43,iN 0)] ⟨[(2,iF (List.replicate z false)),(1,L7 (L0 z)),(0,dY z s k R)],3,0⟩ P:=by
 have hf:C.E.rounds=B6:=by rw[hC,k9]
 have hR:=(N0 h4).1
 simp only at hR
 have ho:=D9 k R
 refine r5 (fun m fr st=>∃ (i:Nat) (B:List Bool) (acc:List E5),m=R.length - i/\i<=R.length/\B.length=z/\A9 z R=acc++eN i B (R.drop i)/\acc.length<=102+i*202/\
  fr= [(1,.ptr 0 0),(5,.gr 2 1 acc.length),(7,.ref 2 0 z z),(42,iN R.length),(43,iN i)]/\st=⟨[(2,iF B),(1,L7 acc),(0,dY z s k R)],3,0⟩) R.length ?_ ⟨_,_,.refl _ _,0,List.replicate z false,L0 z,by omega,bA5 _,by simp,rfl,by rw[cP];omega,rfl,rfl⟩ ?_
 ·rw[hf];unfold B6;omega
 rintro mm fr st ⟨i,B,acc,rfl,hi,hB,h7,hp,rfl,rfl⟩
 by_cases h8:i<R.length
 case neg=>
  have:i=R.length:=by omega
  subst this
  have e:A9 z R=acc:=by rw[h7,dJ6,eN,dC9]
  have h6:=h6 B
  rw[e] at h6
  simp (disch:=try exact z0z) only[WA,simprocAttr,FZ]
  exact h6
 have hg:=dP h4 h3 h8
 have hh:=bH5 w n s k hs z R hK i h8 (.inr (.inr (.inr (by omega)))) h4
 have hj:=gN R[i]!
 rw[hg] at hj
 have hk:=JP (CN h3 h8)
 rw[CL h8,<- bL9] at h7
 have hq:=VL i B (H5 R[i]!)
 have h1:rS i B (H5 R[i]!)=xf B (H5 R[i]!) (H5 R[i]!).length++qM i (uL (decide (i % 2=1)) (B7 B (H5 R[i]!) (H5 R[i]!).length) (H5 R[i]!) (H5 R[i]!).length):=rfl
 generalize H5 R[i]! =F at*
 simp (disch:=try exact z0z) only[WA,simprocAttr,FZ]
 all_goals try omega
 refine cN hC hh ?_
 simp (disch:=try exact z0z) only[WA,simprocAttr]
 refine cB5 (T1 11 54 7 rfl) ?_
 refine bZ9 w (n+9) hC h0 z s k R R.length i (by omega) B F acc (by omega) hk (by omega) (by omega) _ rfl z hB ?_
 have hl:(∃ x:Unit,i % 2=0/\decide (i % 2=1)=false/\K8 .and (.int .i64 i) (.int .i64 1)=some (.int .i64 0))\/(∃ x:Unit,i % 2=1/\decide (i % 2=1)=true/\K8 .and (.int .i64 i) (.int .i64 1)=some (.int .i64 1)):=by
  rcases Nat.mod_two_eq_zero_or_one i with h|h
  ·exact .inl ⟨(),h,by rw[h];rfl,sR i (by omega) 0 (by rw[h];rfl)⟩
  ·exact .inr ⟨(),h,by rw[h];rfl,sR i (by omega) 1 (by rw[h];rfl)⟩
 have ht:=G7 (acc++xf B F F.length)
 have hu:=EO B F F.length
 have hv:(acc++xf B F F.length).length<=21000:=by rw[bA4];omega
 have h9:=I3 B F F.length
 rw[hB] at h9
 rcases hl with ⟨_,h2,ha,hb⟩|⟨_,h2,ha,hb⟩
 ·rw[ha] at h1 ⊢
  unfold qM at h1
  rw[aO9 h2] at h1
  have he:=fun {Q}=>@aW7 w (n+9) C Q hC (uL false (B7 B F F.length) F F.length) (by rw[V6];omega)
  rw[V6] at he
  have hc:=G7 (uL false (B7 B F F.length) F F.length).reverse
  rw[List.length_reverse,V6] at hc
  have hm:=aJ6 (uL false (B7 B F F.length) F F.length).reverse
  have h5:=lC (acc++xf B F F.length) (uL false (B7 B F F.length) F F.length).reverse
  rw[bL9 acc,<- h1] at h5
  have hd:(acc++rS i B F).length=(acc++xf B F F.length).length+F.length:=by rw[h1,<- bL9,bA4,List.length_reverse,V6]
  simp (disch:=try exact z0z) only[WA,simprocAttr,hb]
  refine he _ _ _ ?_
  simp (disch:=try exact z0z) only[WA,simprocAttr]
  all_goals try omega
  exact ⟨R.length - (i+1),_,_,by omega,o9 [(2,2),(4,1),(0,0)] 3 h0 rfl rfl rfl rfl,i+1,B7 B F F.length,acc++rS i B F,rfl,by omega,h9,h7,by rw[bA4];omega,by rw[hd];rfl,by simp only[L7];rw[h5];rfl⟩
 ·rw[ha] at h1 ⊢
  unfold qM at h1
  rw[aQ4 (by omega)] at h1
  have hc:=G7 (uL true (B7 B F F.length) F F.length)
  rw[V6] at hc
  have hm:=aJ6 (uL true (B7 B F F.length) F F.length)
  have h5:=lC (acc++xf B F F.length) (uL true (B7 B F F.length) F F.length)
  rw[bL9 acc,<- h1] at h5
  have hd:(acc++rS i B F).length=(acc++xf B F F.length).length+F.length:=by rw[h1,<- bL9,bA4,V6]
  simp (disch:=try exact z0z) only[WA,simprocAttr,hb]
  all_goals try omega
  exact ⟨R.length - (i+1),_,_,by omega,o9 [(2,2),(4,1),(0,0)] 3 h0 rfl rfl rfl rfl,i+1,B7 B F F.length,acc++rS i B F,rfl,by omega,h9,h7,by rw[bA4];omega,by rw[hd];rfl,by simp only[L7];rw[h5];rfl⟩
end
theorem iK (k:Nat):H4 (L0 (k+1))=H4 (L0 k)++ [.sc (.int .u8 3),.sc (.bool true),.sc (.int .u8 0),.sc (.int .i64 k),.sc (.int .i64 0),.sc (.int .i64 1),.sc (.int .i64 0)]:=by rw[YZ,Z4];rfl
theorem HQ:H4 (L0 0)= [.sc (.int .u8 1),.sc (.bool false),.sc (.int .u8 0),.sc (.int .i64 0),.sc (.int .i64 0),.sc (.int .i64 1),.sc (.int .i64 0)]:=rfl
theorem PU (z:Nat):List.replicate z (D.sc (.int .u8 0))=M7 (List.replicate z false):=by
 unfold M7
 rw[List.map_replicate];rfl
theorem CZ {H:E9} {o c t n:Nat} {g z:Bool} {l:List D} (h:j7 H o=some (.row t 7 g z l)) (hl:l.length=n*7):D1 H (.ref o 0 n c)=some (.sl 0 n l):=by
 simp only[D1,dS,h,cZ9,dD7]
 rw[aO9 (by omega)]
 show some (V.sl 0 n (l.take (n*7)))=_
 rw[cS6 (by omega)]
abbrev jfV (p:List E5 × Int):V:= .tup [jS 3 p.1,iN p.2]
theorem nJ:∀ (R:List (Bool × List u6)) (i:Nat),(∀ r ∈ R,r.2= [])->eN i [] R= []
 | [],_,_=>rfl
 |r::R,i,h=>by
  have h1:H5 r= []:=bA8 (by rw[gN,h r (dB6 ..)];rfl)
  have h2:rS i [] []= []:=by unfold rS qM;split<;>rfl
  rw[eN,h1,h2]
  exact nJ R (i+1) fun x hx=>h x (cR3 _ hx)
section
variable (w:World) (n:Nat)
theorem bE5 {C:C8} (hC:C.E=EN w (n+1)) (h0:C.w0.nx=0) (z:Nat) (hz:0<z) (ht:z<=1000) (s k:Nat) (R:List (Bool × List u6)) {K:List KF} {P:B9}
  (hd:gK C K (.exit 0) [(1,.ptr 0 0),(5,.gr 2 1 (L0 z).length),(27,iN z),(28,iN z),(29,.sc (.bool false))] ⟨[(1,L7 (L0 z)),(0,dY z s k R)],2,0⟩ P):
  gL C [1,5,27,28] GA K [(1,.ptr 0 0),(5,.ref 1 0 1 1),(27,iN z),(28,iN 0)] ⟨[(1,.row 54 7 false false (H4 (L0 0))),(0,dY z s k R)],2,0⟩ P:=by
 have he:C.E.rounds=B6:=by rw[hC,k9]
 refine r5 (fun m fr st=>(m=z/\fr= [(1,.ptr 0 0),(5,.ref 1 0 1 1),(27,iN z),(28,iN 0)]/\st=⟨[(1,.row 54 7 false false (H4 (L0 0))),(0,dY z s k R)],2,0⟩)\/
  ∃ j:Nat,m=z - j/\0<j/\j<=z/\fr= [(1,.ptr 0 0),(5,.gr 2 1 (L0 j).length),(27,iN z),(28,iN j)]/\st=⟨[(1,L7 (L0 j)),(0,dY z s k R)],2,0⟩) z ?_ ⟨_,_,.refl _ _,.inl ⟨rfl,rfl,rfl⟩⟩ ?_
 ·rw[he];unfold B6;omega
 rintro mm fr st (⟨rfl,rfl,rfl⟩|⟨j,rfl,hu,hj,rfl,rfl⟩)
 ·rw[HQ]
  have h1:=iK 0
  rw[HQ] at h1
  simp (disch:=try exact z0z) only[WA,simprocAttr,GA,z6]
  all_goals try omega
  exact ⟨mm - 1,_,_,by omega,o9 [(3,1),(0,0)] 2 h0 rfl rfl rfl rfl,.inr ⟨1,rfl,by omega,by omega,rfl,by simp only[L7];rw[h1];rfl⟩⟩
 by_cases h6:j<z
 case neg=>
  have:j=z:=by omega
  subst this
  simp (disch:=try exact z0z) only[WA,simprocAttr,GA]
  exact hd
 have h1:=iK j
 have hl:=G7 (L0 j)
 have h5:=cP j
 have hf:=cP (j+1)
 generalize L0 j=A at*
 simp (disch:=try exact z0z) only[WA,simprocAttr,GA,z6]
 all_goals try omega
 exact ⟨z - (j+1),_,_,by omega,o9 [(3,1),(0,0)] 2 h0 rfl rfl rfl rfl,.inr ⟨j+1,rfl,by omega,by omega,by rw[hf,h5];rfl,by simp only[L7];rw[h1];rfl⟩⟩
theorem aB3 {C:C8} {Q:V->n9->Prop} (hC:C.E=EN w (n+1)) (H:E9) (nx:Nat) (hq:Q (.tup []) ⟨H,nx,0⟩):T2 C 78 [.sc (.slice none 0 0)] ⟨H,nx,0⟩ Q:=by
 refine mP hC rfl rfl (fun _ _=>rfl) (cJ5 rfl) hq fun C' hg hn=>?_
 simp (disch:=try exact z0z) only[WA,simprocAttr,c78]
 refine r5 (fun m fr st=>m=0/\fr= [(0,.sc (.slice none 0 0)),(2,iN 0),(3,iN (-1))]/\st=⟨H,nx,0⟩) 0 ?_ ⟨_,_,.refl _ _,rfl,rfl,rfl⟩ ?_
 ·rw[hg,k9];unfold B6;omega
 rintro m fr st ⟨rfl,rfl,rfl⟩
 simp (disch:=try exact z0z) only[WA,simprocAttr,aF0]
 exact .refl _ _
theorem GH (s k:Nat) (hs:s ≠ 1) (hk:k=1\/k=2\/k=0) (zi:Int) (R:List (Bool × List u6)) (hR:R.length<=140737488351232) (hK:fB R):m0 (EN w (n+11)) 30 [O2 s k (zi,R)] (jfV (T3 (zi,R))) ⟨[],0,0⟩:=by
 have hv:=D9 k R
 have h3:=sX w (n+1) s k hs zi R hR hK
 have h4:=cD8 w (n+6) s k zi R hR hK
 unfold T3
 refine vG rfl aG fun C hC h0=>?_
 by_cases e1:X5 (zi,R)=0
 case neg=>
  rw[aO9 e1]
  generalize X5 (zi,R)=E at*
  simp (disch:=try exact z0z) only[WA,simprocAttr,c30]
  refine cF hC h3 ?_
  simp (disch:=try exact z0z) only[WA,simprocAttr,e1]
  exact E2 h0 rfl
 rw[aQ4 (fun h=>h e1)]
 rw[e1] at h3
 by_cases e2:xC (zi,R)=true
 case neg=>
  rw[aQ4 e2]
  rw[cB6] at e2
  rw[e2] at h4
  simp (disch:=try exact z0z) only[WA,simprocAttr,c30]
  refine cF hC h3 ?_
  simp (disch:=try exact z0z) only[WA,simprocAttr]
  refine cF hC h4 ?_
  simp (disch:=try exact z0z) only[WA,simprocAttr]
  exact E2 h0 rfl
 rw[aO9 e2]
 rw[e2] at h4
 have hh:=N0 e1
 simp only at hh
 obtain ⟨z,rfl⟩:∃ z:Nat,zi=z:=⟨zi.toNat,by omega⟩
 have h7:Z6 R=true/\z<=101:=by
  unfold xC at e2
  simp only[aO3,cT5] at e2
  exact ⟨e2.1,by omega⟩
 simp only[cJ2]
 have h1:=HQ
 by_cases hz:z=0
 ·subst hz
  have h9:∀ i,i<R.length->R[i]!.2= []:=fun i hi=>bA8 (dP e1 h7.1 hi)
  have h5:A9 0 R= [in1]:=by
   unfold A9
   rw[show List.replicate 0 false= [] from rfl,nJ R 0 fun r hr=>by
    obtain ⟨i,hi,rfl⟩:=dL4 hr
    have:=h9 i hi
    rwa [bA7 R i hi] at this]
   rfl
  rw[aQ4 (by rw[h5];decide),h5]
  simp (disch:=try exact z0z) only[WA,simprocAttr,c30]
  refine cF hC h3 ?_
  simp (disch:=try exact z0z) only[WA,simprocAttr]
  refine cF hC h4 ?_
  simp (disch:=try exact z0z) only[WA,simprocAttr,z6]
  refine r5 (fun m fr st=>m=0/\fr= [(1,.ptr 0 0),(5,.ref 1 0 1 1),(27,iN 0),(28,iN 0)]/\st=⟨[(1,.row 54 7 false false (H4 [in1])),(0,dY 0 s k R)],2,0⟩) 0 ?_ ⟨_,_,.refl _ _,rfl,rfl,rfl⟩ ?_
  ·rw[hC,k9];unfold B6;omega
  rintro m fr st ⟨rfl,rfl,rfl⟩
  simp (disch:=try exact z0z) only[WA,simprocAttr,GA]
  refine r5 (fun m fr st=>∃ i:Nat,m=R.length - i/\i<=R.length/\fr= [(1,.ptr 0 0),(5,.ref 1 0 1 1),(7,.ref 2 0 0 0),(42,iN R.length),(43,iN i)]/\st=⟨[(2,.row 5 1 false false []),(1,.row 54 7 false false (H4 [in1])),(0,dY 0 s k R)],3,0⟩) R.length ?_ ⟨_,_,.refl _ _,0,by omega,bA5 _,rfl,rfl⟩ ?_
  ·rw[hC,k9];unfold B6;omega
  rintro m fr st ⟨i,rfl,hi,rfl,rfl⟩
  by_cases h6:i<R.length
  case neg=>
   simp (disch:=try exact z0z) only[WA,simprocAttr,FZ]
   all_goals try omega
   exact Y8 (CZ rfl rfl) rfl (.inl (by decide)) h0 rfl
  have ha:=bH5 w n s k hs 0 R hK i h6 (by omega) e1
  have hm:H5 R[i]! = []:=bA8 (by rw[gN,h9 i h6];rfl)
  rw[hm] at ha
  simp (disch:=try exact z0z) only[WA,simprocAttr,FZ]
  all_goals try omega
  refine cN hC ha ?_
  simp (disch:=try exact z0z) only[WA,simprocAttr]
  refine r5 (fun m fr st=>m=0/\fr= [(1,.ptr 0 0),(5,.ref 1 0 1 1),(7,.ref 2 0 0 0),(8,iN i),(11,.sc (.slice none 0 0)),(42,iN R.length),(43,iN i),(52,tS 3 []),(53,iN 0),(54,iN 0)]/\st=⟨[(2,.row 5 1 false false []),(1,.row 54 7 false false (H4 [in1])),(0,dY 0 s k R)],3,0⟩) 0 ?_ ⟨_,_,.refl _ _,rfl,rfl,rfl⟩ ?_
  ·rw[hC,k9];unfold B6;omega
  rintro m fr st ⟨rfl,rfl,rfl⟩
  have ho:=(N0 e1).1
  simp only at ho
  rcases Nat.mod_two_eq_zero_or_one i with h2|h2
  ·have h8:=sR i (by omega) 0 (by rw[h2];rfl)
   simp (disch:=try exact z0z) only[WA,simprocAttr,bC,h8]
   refine aB3 w (n+9) hC _ _ ?_
   repeat' (first|(simp (disch:=try exact z0z) only[WA,simprocAttr])|apply j8|((first|apply n7|apply m9|apply l8|apply n8|apply n6|apply l9)<;>intro _))
   all_goals try omega
   exact ⟨R.length - (i+1),_,_,by omega,.refl _ _,i+1,rfl,by omega,rfl,rfl⟩
  ·have h8:=sR i (by omega) 1 (by rw[h2];rfl)
   simp (disch:=try exact z0z) only[WA,simprocAttr,bC,h8]
   all_goals try omega
   exact ⟨R.length - (i+1),_,_,by omega,.refl _ _,i+1,rfl,by omega,rfl,rfl⟩
 ·have hc:=fun nx t=>cI nx t 1 (.int .u8 0) rfl .i64 .i64 (z:Int) (z:Int) (by omega) (by omega) (by omega) (by omega)
  rw[cJ2,PU] at hc
  have hp:=G7 (A9 z R)
  simp (disch:=try exact z0z) only[WA,simprocAttr,c30]
  refine cF hC h3 ?_
  simp (disch:=try exact z0z) only[WA,simprocAttr]
  refine cF hC h4 ?_
  simp (disch:=try exact z0z) only[WA,simprocAttr,z6]
  refine bE5 w (n+9) hC h0 z (by omega) (by omega) s k R ?_
  simp (disch:=try exact z0z) only[WA,simprocAttr,hc]
  refine bE6 w n hC h0 z (by omega) h7.2 s k hs R hK e1 h7.1 fun B=>?_
  by_cases hb:2000<(A9 z R).length
  ·rw[aO9 hb]
   simp (disch:=try exact z0z) only[WA,simprocAttr]
   all_goals try omega
   exact E2 h0 rfl
  ·rw[aQ4 hb]
   simp (disch:=try exact z0z) only[WA,simprocAttr]
   all_goals try omega
   exact Y8 (VZ rfl hp) rfl (.inl (by decide)) h0 rfl
end
theorem MI (a:Bool):cA8 true (.sc (.bool a)) (.sc (.bool true))=some (.sc (.bool (!a))):=by cases a<;>rfl
theorem MH (a:Bool):cA8 true (.sc (.bool a)) (.sc (.bool false))=some (.sc (.bool a)):=by cases a<;>rfl
theorem bF8 (i:Nat) (od:Bool) (B:List Bool) (F:List u6) (N m:Nat) (hm:m<N):(qM i (uL od B F N))[m]! =rwI od B F (if i % 2=0 then N - 1 - m else m):=by
 have hr:∀ k,k<N->(uL od B F N)[k]! =rwI od B F k:=fun k hk=>by
  rw[bA7 _ k (by rw[V6];exact hk)]
  simp[uL]
 unfold qM
 by_cases h:i % 2=0
 ·rw[aO9 h,aO9 h,aN9 _ m (by rw[V6];exact hm),V6,hr _ (by omega)]
 ·rw[aQ4 h,aQ4 h,hr _ hm]
theorem aY5 {L:List E5} {m:Nat} (h:m<L.length):L.take (m+1)=L.take m++ [L[m]!]:=by rw[dD4 h,bA7 L m h]
section
variable (w:World) (n:Nat)
theorem aV8 {C:C8} (hC:C.E=EN w (n+1)) (h0:C.w0.nx=0) (z:Nat) (hz:0<z) (hw:z<=1000) (s k:Nat) (R:List (Bool × List u6)) (B:List Bool) {K:List KF} {P:B9}
  (h4:gK C K (.exit 0) [(1,.ptr 0 0),(4,.gr 2 1 (L0 z).length),(5,.ref 2 0 z z),(6,iN z),(29,.sc (.bool false))] ⟨[(2,iF B),(1,L7 (L0 z)),(0,dY z s k R)],3,0⟩ P):
  gL C [1,4,5,6] GC K [(1,.ptr 0 0),(4,.ref 1 0 1 1),(5,.ref 2 0 z z),(6,iN 0)] ⟨[(2,iF B),(1,.row 54 7 false false (H4 (L0 0))),(0,dY z s k R)],3,0⟩ P:=by
 have hb:C.E.rounds=B6:=by rw[hC,k9]
 refine r5 (fun m fr st=>(m=z/\fr= [(1,.ptr 0 0),(4,.ref 1 0 1 1),(5,.ref 2 0 z z),(6,iN 0)]/\st=⟨[(2,iF B),(1,.row 54 7 false false (H4 (L0 0))),(0,dY z s k R)],3,0⟩)\/
  ∃ j:Nat,m=z - j/\0<j/\j<=z/\fr= [(1,.ptr 0 0),(4,.gr 2 1 (L0 j).length),(5,.ref 2 0 z z),(6,iN j)]/\st=⟨[(2,iF B),(1,L7 (L0 j)),(0,dY z s k R)],3,0⟩) z ?_ ⟨_,_,.refl _ _,.inl ⟨rfl,rfl,rfl⟩⟩ ?_
 ·rw[hb];unfold B6;omega
 rintro mm fr st (⟨rfl,rfl,rfl⟩|⟨j,rfl,hx,hj,rfl,rfl⟩)
 ·rw[HQ]
  have h1:=iK 0
  rw[HQ] at h1
  simp (disch:=try exact z0z) only[WA,simprocAttr,GC,z6]
  all_goals try omega
  exact ⟨mm - 1,_,_,by omega,o9 [(2,2),(4,1),(0,0)] 3 h0 rfl rfl rfl rfl,.inr ⟨1,rfl,by omega,by omega,rfl,by simp only[L7];rw[h1];rfl⟩⟩
 by_cases hd:j<z
 case neg=>
  have:j=z:=by omega
  subst this
  simp (disch:=try exact z0z) only[WA,simprocAttr,GC]
  exact h4
 have h1:=iK j
 have hl:=G7 (L0 j)
 have hh:=cP j
 have hn:=cP (j+1)
 generalize L0 j=A at*
 simp (disch:=try exact z0z) only[WA,simprocAttr,GC,z6]
 all_goals try omega
 exact ⟨z - (j+1),_,_,by omega,o9 [(2,2),(4,1),(0,0)] 3 h0 rfl rfl rfl rfl,.inr ⟨j+1,rfl,by omega,by omega,by rw[hn,hh];rfl,by simp only[L7];rw[h1];rfl⟩⟩
theorem bP7 {C:C8} (hC:C.E=EN w (n+1)) (h0:C.w0.nx=0) (z:Nat) (s k:Nat) (R:List (Bool × List u6)) (i:Nat) (hi:i<1000000) (B:List Bool) (F:List u6) (acc:List E5) (hF:F.length=B.length) (hB:B.length=z) (hp:F.all P0=true) (hy:F.length<=1000) (g0:acc.length<=1000000) (v96:V) (ho:v96= .sc (.bool false)) {K:List KF} {P:B9}
  (h4:gK C K (.exit 6) [(1,.ptr 0 0),(4,.gr 2 1 (acc++qM i (uL (decide (i % 2=1)) B F F.length)).length),(5,.ref 2 0 z z),(7,iN i),(8,tS 3 F),(10,iN F.length),(96,v96)]
   ⟨[(2,iF B),(1,L7 (acc++qM i (uL (decide (i % 2=1)) B F F.length))),(0,dY z s k R)],3,0⟩ P):
  gL C [1,4,5,7,8,10] vL K [(1,.ptr 0 0),(4,.gr 2 1 acc.length),(5,.ref 2 0 z z),(7,iN i),(8,tS 3 F),(10,iN 0)] ⟨[(2,iF B),(1,L7 acc),(0,dY z s k R)],3,0⟩ P:=by
 subst hB
 have hb:C.E.rounds=B6:=by rw[hC,k9]
 have g1:=E6 F
 have hq:(qM i (uL (decide (i % 2=1)) B F F.length)).length=F.length:=by rw[QZ,V6]
 have hc:=fun m hm=>bF8 i (decide (i % 2=1)) B F F.length m hm
 have hs:∃ od:Bool,decide (i % 2=1)=od/\((od=false/\i % 2=0)\/(od=true/\i % 2=1))/\K8 .rem (.int .i64 i) (.int .i64 2)=some (.int .i64 (if od then 1 else 0)):=by
  rcases Nat.mod_two_eq_zero_or_one i with h|h
  ·exact ⟨false,by rw[h];rfl,.inl ⟨rfl,h⟩,bC2 i 0 (by rw[h];rfl)⟩
  ·exact ⟨true,by rw[h];rfl,.inr ⟨rfl,h⟩,bC2 i 1 (by rw[h];rfl)⟩
 obtain ⟨od,he,ht,h6⟩:=hs
 rw[he] at h4 hq hc
 clear he
 generalize qM i (uL od B F F.length)=RL at*
 refine r5 (fun m fr st=>∃ j:Nat,m=F.length - j/\j<=F.length/\fr= [(1,.ptr 0 0),(4,.gr 2 1 (acc++RL.take j).length),(5,.ref 2 0 B.length B.length),(7,iN i),(8,tS 3 F),(10,iN j)]/\
  st=⟨[(2,iF B),(1,L7 (acc++RL.take j)),(0,dY B.length s k R)],3,0⟩) F.length ?_ ⟨_,_,.refl _ _,0,by omega,bA5 _,by simp,by simp⟩ ?_
 ·rw[hb];unfold B6;omega
 rintro mm fr st ⟨j,rfl,hj,rfl,rfl⟩
 by_cases hd:j<F.length
 case neg=>
  have:j=F.length:=by omega
  subst this
  rw[cS6 (by omega)]
  subst ho
  simp (disch:=try exact z0z) only[WA,simprocAttr,vL]
  exact h4
 have h7:=aY5 (L:=RL) (m:=j) (by omega)
 rw[hc j hd] at h7
 have h8:(if i % 2=0 then F.length - 1 - j else j)<F.length:=by split<;>omega
 have hf:(i % 2=0->(if i % 2=0 then F.length - 1 - j else j)=F.length - 1 - j)/\(i % 2=1->(if i % 2=0 then F.length - 1 - j else j)=j):=⟨fun h=>aO9 h,fun h=>aQ4 (by omega)⟩
 generalize (if i % 2=0 then F.length - 1 - j else j)=kk at*
 have h3:=Z4 (acc++RL.take j) (rwI od B F kk)
 rw[bL9,<- h7] at h3
 have h9:(acc++RL.take (j+1)).length=(acc++RL.take j).length+1:=by rw[h7,<- bL9,bA4];rfl
 have g2:(acc++RL.take j).length<=1001000:=by rw[bA4,cV7];omega
 have g3:=G7 (acc++RL.take j)
 unfold rwI at h3
 simp only at h3
 have h5:=DD F _ h8
 have ha:=xK B _ (by rw[<- hF];exact h8)
 have hu:P0 F[kk]! =true:=bB3.1 hp _ (by rw[bA7 F _ h8];exact cN3 h8)
 have g4:=qE B
 clear h7 h4 hc
 generalize bN B[kk]! =b1 at*
 generalize F[kk]! =x at*
 obtain ⟨xk,xp,xa,xb⟩:=x
 have hk:xk=1\/xk=8:=by simpa [P0] using hu
 simp only at h3 h5
 rcases ht with ⟨rfl,h2⟩|⟨rfl,h2⟩
 ·have hg:((F.length:Int) - 1 - j)=(kk:Int):=by have:=hf.1 h2;omega
  rcases hk with rfl|rfl
  ·simp only[if_true] at h3
   simp (disch:=try exact z0z) only[WA,simprocAttr,vL,h6,h5,ha,z6,hg]
   all_goals try omega
   exact ⟨F.length - (j+1),_,_,by omega,o9 [(2,2),(5,1),(0,0)] 3 h0 rfl rfl rfl rfl,j+1,rfl,by omega,by rw[h9];rfl,by simp only[L7];rw[h3];rfl⟩
  ·simp only[show ¬ (8:Nat)=1 by decide,if_false] at h3
   simp (disch:=try exact z0z) only[WA,simprocAttr,vL,h6,h5,ha,z6,hg]
   all_goals try omega
   exact ⟨F.length - (j+1),_,_,by omega,o9 [(2,2),(5,1),(0,0)] 3 h0 rfl rfl rfl rfl,j+1,rfl,by omega,by rw[h9];rfl,by simp only[L7];rw[h3];rfl⟩
 ·have hv:=hf.2 h2
  subst hv
  rcases hk with rfl|rfl
  ·simp only[if_true] at h3
   simp (disch:=try exact z0z) only[WA,simprocAttr,vL,h6,h5,ha,z6]
   all_goals try omega
   exact ⟨F.length - (kk+1),_,_,by omega,o9 [(2,2),(5,1),(0,0)] 3 h0 rfl rfl rfl rfl,kk+1,rfl,by omega,by rw[h9];rfl,by simp only[L7];rw[h3];rfl⟩
  ·simp only[show ¬ (8:Nat)=1 by decide,if_false] at h3
   simp (disch:=try exact z0z) only[WA,simprocAttr,vL,h6,h5,ha,z6]
   all_goals try omega
   exact ⟨F.length - (kk+1),_,_,by omega,o9 [(2,2),(5,1),(0,0)] 3 h0 rfl rfl rfl rfl,kk+1,rfl,by omega,by rw[h9];rfl,by simp only[L7];rw[h3];rfl⟩
end
theorem wr0:IntKind.u8.wrap 0=0:=rfl
theorem wr1:IntKind.u8.wrap 1=1:=rfl
section
variable (w:World) (n:Nat)
theorem cE1 {C:C8} (hC:C.E=EN w (n+1)) (h0:C.w0.nx=0) (z:Nat) (s k:Nat) (R:List (Bool × List u6)) (i:Nat) (B:List Bool) (F:List u6) (acc:List E5) (hF:F.length=B.length) (hB:B.length=z) (hp:F.all P0=true) (hy:F.length<=1000) (g9':acc.length<=1000000) (v96:V) (ga:v96= .sc (.bool false)) {K:List KF} {P:B9}
  (h7:gK C K (.exit 4) [(1,.ptr 0 0),(4,.gr 2 1 (acc++xf B F F.length).length),(5,.ref 2 0 z z),(7,iN i),(8,tS 3 F),(9,iN F.length),(53,v96)]
   ⟨[(2,iF (B7 B F F.length)),(1,L7 (acc++xf B F F.length)),(0,dY z s k R)],3,0⟩ P):
  gL C [1,4,5,7,8,9] qH K [(1,.ptr 0 0),(4,.gr 2 1 acc.length),(5,.ref 2 0 z z),(7,iN i),(8,tS 3 F),(9,iN 0)] ⟨[(2,iF B),(1,L7 acc),(0,dY z s k R)],3,0⟩ P:=by
 subst hB
 have ho:C.E.rounds=B6:=by rw[hC,k9]
 have gl:=E6 F
 refine r5 (fun m fr st=>∃ j:Nat,m=F.length - j/\j<=F.length/\fr= [(1,.ptr 0 0),(4,.gr 2 1 (acc++xf B F j).length),(5,.ref 2 0 B.length B.length),(7,iN i),(8,tS 3 F),(9,iN j)]/\
  st=⟨[(2,iF (B7 B F j)),(1,L7 (acc++xf B F j)),(0,dY B.length s k R)],3,0⟩) F.length ?_ ⟨_,_,.refl _ _,0,by omega,bA5 _,by simp[xf],by simp[xf,FT]⟩ ?_
 ·rw[ho];unfold B6;omega
 rintro mm fr st ⟨j,rfl,hj,rfl,rfl⟩
 by_cases h2:j<F.length
 case neg=>
  have:j=F.length:=by omega
  subst this
  subst ga
  simp (disch:=try exact z0z) only[WA,simprocAttr,qH]
  exact h7
 have hf:j<B.length:=by omega
 have h9:=DD F j h2
 have ha:=bT1 F j h2
 have hg:=xK (B7 B F j) j (by rw[I3];exact hf)
 rw[LM B F j hf] at hg
 have gb:=qE (B7 B F j)
 rw[I3] at gb
 have gm:=G7 (acc++xf B F j)
 have gc:=EO B F j
 have gn:(acc++xf B F j).length<=1001000:=by rw[bA4];omega
 have gd:=fun b=>PV (B7 B F j) j b
 have g0:=FS B F j hf
 have g1:=sS B F j hf
 have hh:=bX4 B F j
 have hc:=cO0 B F j
 have gf:P0 F[j]! =true:=bB3.1 hp _ (by rw[bA7 F j h2];exact cN3 h2)
 have hd:=Z4 (acc++xf B F j) (xfI B j)
 unfold xfI at hd
 simp only at hd
 unfold xfP at hh hc
 clear h7
 have g2:∀ b:Bool,B[j]! =b->(B7 B F j).set j b=B7 B F j:=fun b hb=>iT (by simp) fun q hq=>by
  rw[I3] at hq
  rw[aO2 _ _ _ _ (by rw[I3];exact hq)]
  by_cases e:j=q
  ·subst e;rw[aO9 rfl,LM B F j hf,hb]
  ·rw[aQ4 e]
 generalize g3:B[j]! =b0 at*
 generalize F[j]! =x at*
 obtain ⟨xk,xp,xa,xb⟩:=x
 have hk:xk=1\/xk=8:=by simpa [P0] using gf
 simp only at h9 ha g0 g1 hh hc
 rcases hk with rfl|rfl
 ·have h5:=g0 rfl
  simp only[decide_true,dE6] at hh hc
  have g4:=gd xp
  cases xp<;>cases b0
  ·have h3:=hc rfl
   rw[g2 false rfl] at h5
   have h8:C0 (M7 (B7 B F j)) j none=some (.sc (.int .u8 0)):=hg
   simp (disch:=try exact z0z) only[WA,simprocAttr,qH,h9,ha,h8,MI,MH]
   all_goals try omega
   exact ⟨F.length - (j+1),_,_,by omega,.refl _ _,j+1,rfl,by omega,by rw[h3];rfl,by rw[h3,h5]⟩
  ·have h3:=hh rfl
   have h8:C0 (M7 (B7 B F j)) j none=some (.sc (.int .u8 1)):=hg
   have hs:(M7 (B7 B F j)).set j (.sc (.int .u8 0))=M7 (B7 B F (j+1)):=by rw[h5];exact g4
   have ht:(acc++xf B F (j+1)).length=(acc++xf B F j).length+1:=by rw[h3,<- bL9,bA4];rfl
   have hu:H4 (acc++xf B F (j+1))=H4 (acc++xf B F j)++ [.sc (.int .u8 7),.sc (.bool false),.sc (.int .u8 1),.sc (.int .i64 j),.sc (.int .i64 j),.sc (.int .i64 0),.sc (.int .i64 0)]:=by
    rw[h3,<- bL9]
    unfold xfI
    rw[g3]
    exact hd
   simp (disch:=try exact z0z) only[WA,simprocAttr,qH,h9,ha,h8,MI,MH,z6,wr0,wr1,hs]
   all_goals try omega
   exact ⟨F.length - (j+1),_,_,by omega,o9 [(2,2),(4,1),(0,0)] 3 h0 rfl rfl rfl rfl,j+1,rfl,by omega,by rw[ht];rfl,by simp only[L7];rw[hu];rfl⟩
  ·have h3:=hh rfl
   have h8:C0 (M7 (B7 B F j)) j none=some (.sc (.int .u8 0)):=hg
   have hs:(M7 (B7 B F j)).set j (.sc (.int .u8 1))=M7 (B7 B F (j+1)):=by rw[h5];exact g4
   have ht:(acc++xf B F (j+1)).length=(acc++xf B F j).length+1:=by rw[h3,<- bL9,bA4];rfl
   have hu:H4 (acc++xf B F (j+1))=H4 (acc++xf B F j)++ [.sc (.int .u8 7),.sc (.bool false),.sc (.int .u8 0),.sc (.int .i64 j),.sc (.int .i64 j),.sc (.int .i64 0),.sc (.int .i64 0)]:=by
    rw[h3,<- bL9]
    unfold xfI
    rw[g3]
    exact hd
   simp (disch:=try exact z0z) only[WA,simprocAttr,qH,h9,ha,h8,MI,MH,z6,wr0,wr1,hs]
   all_goals try omega
   exact ⟨F.length - (j+1),_,_,by omega,o9 [(2,2),(4,1),(0,0)] 3 h0 rfl rfl rfl rfl,j+1,rfl,by omega,by rw[ht];rfl,by simp only[L7];rw[hu];rfl⟩
  ·have h3:=hc rfl
   rw[g2 true rfl] at h5
   have h8:C0 (M7 (B7 B F j)) j none=some (.sc (.int .u8 1)):=hg
   simp (disch:=try exact z0z) only[WA,simprocAttr,qH,h9,ha,h8,MI,MH]
   all_goals try omega
   exact ⟨F.length - (j+1),_,_,by omega,.refl _ _,j+1,rfl,by omega,by rw[h3];rfl,by rw[h3,h5]⟩
 ·have h5:=g1 (by decide)
  have h3:=hc rfl
  simp (disch:=try exact z0z) only[WA,simprocAttr,qH,h9,ha]
  all_goals try omega
  exact ⟨F.length - (j+1),_,_,by omega,.refl _ _,j+1,rfl,by omega,by rw[h3];rfl,by rw[h3,h5]⟩
theorem aV9 {C:C8} (hC:C.E=EN w (n+4)) (h0:C.w0.nx=0) (z:Nat) (hz:0<z) (go:z<=101) (s k:Nat) (R:List (Bool × List u6)) (hK:fB R) (h4:X5 ((z:Int),R)=0) (h6:Z6 R=true) {K:List KF} {P:B9}
  (h7:∀ B:List Bool,gK C K (.exit 2) [(1,.ptr 0 0),(4,.gr 2 1 (A9 z R).length),(5,.ref 2 0 z z),(7,iN R.length),(41,.sc (.bool false))] ⟨[(2,iF B),(1,L7 (A9 z R)),(0,dY z s k R)],3,0⟩ P):
  gL C [1,4,5,7] GB K [(1,.ptr 0 0),(4,.gr 2 1 (L0 z).length),(5,.ref 2 0 z z),(7,iN 0)] ⟨[(2,iF (List.replicate z false)),(1,L7 (L0 z)),(0,dY z s k R)],3,0⟩ P:=by
 have ho:C.E.rounds=B6:=by rw[hC,k9]
 have hR:=(N0 h4).1
 simp only at hR
 have gg:=D9 k R
 refine r5 (fun m fr st=>∃ (i:Nat) (B:List Bool) (acc:List E5),m=R.length - i/\i<=R.length/\B.length=z/\A9 z R=acc++eN i B (R.drop i)/\acc.length<=102+i*202/\
  fr= [(1,.ptr 0 0),(4,.gr 2 1 acc.length),(5,.ref 2 0 z z),(7,iN i)]/\st=⟨[(2,iF B),(1,L7 acc),(0,dY z s k R)],3,0⟩) R.length ?_ ⟨_,_,.refl _ _,0,List.replicate z false,L0 z,by omega,bA5 _,by simp,rfl,by rw[cP];omega,rfl,rfl⟩ ?_
 ·rw[ho];unfold B6;omega
 rintro mm fr st ⟨i,B,acc,rfl,hi,hB,hv,g9',rfl,rfl⟩
 by_cases h2:i<R.length
 case neg=>
  have:i=R.length:=by omega
  subst this
  have e:A9 z R=acc:=by rw[hv,dJ6,eN,dC9]
  have h7:=h7 B
  rw[e] at h7
  simp (disch:=try exact z0z) only[WA,simprocAttr,GB]
  exact h7
 have g5:=dP h4 h6 h2
 have hy:=gN R[i]!
 rw[g5] at hy
 have g6:=JP (CN h6 h2)
 rw[CL h2,<- bL9] at hv
 have gp:=VL i B (H5 R[i]!)
 have gh:rS i B (H5 R[i]!)=xf B (H5 R[i]!) (H5 R[i]!).length++qM i (uL (decide (i % 2=1)) (B7 B (H5 R[i]!) (H5 R[i]!).length) (H5 R[i]!) (H5 R[i]!).length):=rfl
 have hl:=aH k R i h2
 have hm:=(hK.at h2).1
 generalize R[i]! =r at*
 obtain ⟨b,L⟩:=r
 simp only at hl hm g5
 have hn:=bS1 w (n+1) k b L (by omega) hm
 generalize H5 (b,L)=F at*
 simp (disch:=try exact z0z) only[WA,simprocAttr,GB,hl]
 all_goals try omega
 refine cN hC hn ?_
 repeat' (first|(simp (disch:=try exact z0z) only[WA,simprocAttr])|apply j8|((first|apply n7|apply m9|apply l8|apply n8|apply n6|apply l9)<;>intro _))
 refine cE1 w (n+3) hC h0 z s k R i B F acc (by omega) hB g6 (by omega) (by omega) _ rfl ?_
 simp (disch:=try exact z0z) only[WA,simprocAttr]
 have gc:=EO B F F.length
 have hw:=I3 B F F.length
 rw[hB] at hw
 have gq:(acc++xf B F F.length).length<=21000:=by rw[bA4];omega
 refine bP7 w (n+3) hC h0 z s k R i (by omega) (B7 B F F.length) F (acc++xf B F F.length) (by omega) hw g6 (by omega) (by omega) _ rfl ?_
 rw[bL9 acc,<- gh]
 simp (disch:=try exact z0z) only[WA,simprocAttr]
 exact ⟨R.length - (i+1),_,_,by omega,.refl _ _,i+1,B7 B F F.length,acc++rS i B F,rfl,by omega,hw,hv,by rw[bA4];omega,rfl,rfl⟩
theorem BZ (s k:Nat) (zi:Int) (R:List (Bool × List u6)) (hR:R.length<=140737488351232) (hK:fB R):m0 (EN w (n+6)) 40 [O2 s k (zi,R)] (jfV (T3 (zi,R))) ⟨[],0,0⟩:=by
 have gg:=D9 k R
 have h4:=aA8 w n s k (zi,R) hR hK
 have h6:=bQ8 w (n+4) s k zi R hR hK
 unfold T3
 refine vG rfl aG fun C hC h0=>?_
 by_cases e1:X5 (zi,R)=0
 case neg=>
  rw[aO9 e1]
  generalize X5 (zi,R)=E at*
  simp (disch:=try exact z0z) only[WA,simprocAttr,c40]
  refine cF hC h4 ?_
  simp (disch:=try exact z0z) only[WA,simprocAttr,e1]
  refine cF hC h4 ?_
  repeat' (first|(simp (disch:=try exact z0z) only[WA,simprocAttr])|apply j8|((first|apply n7|apply m9|apply l8|apply n8|apply n6|apply l9)<;>intro _))
  exact E2 h0 rfl
 rw[aQ4 (fun h=>h e1)]
 rw[e1] at h4
 by_cases e2:xC (zi,R)=true
 case neg=>
  rw[aQ4 e2]
  rw[cB6] at e2
  rw[e2] at h6
  simp (disch:=try exact z0z) only[WA,simprocAttr,c40]
  refine cF hC h4 ?_
  simp (disch:=try exact z0z) only[WA,simprocAttr]
  refine cF hC h6 ?_
  simp (disch:=try exact z0z) only[WA,simprocAttr]
  exact E2 h0 rfl
 rw[aO9 e2]
 rw[e2] at h6
 have gi:=N0 e1
 simp only at gi
 obtain ⟨z,rfl⟩:∃ z:Nat,zi=z:=⟨zi.toNat,by omega⟩
 have hx:Z6 R=true/\z<=101:=by
  unfold xC at e2
  simp only[aO3,cT5] at e2
  exact ⟨e2.1,by omega⟩
 simp only[cJ2]
 have h1:=HQ
 by_cases hz:z=0
 ·subst hz
  have he:∀ i,i<R.length->R[i]!.2= []:=fun i hi=>bA8 (dP e1 hx.1 hi)
  have g7:A9 0 R= [in1]:=by
   unfold A9
   rw[show List.replicate 0 false= [] from rfl,nJ R 0 fun r hr=>by
    obtain ⟨i,hi,rfl⟩:=dL4 hr
    have:=he i hi
    rwa [bA7 R i hi] at this]
   rfl
  rw[aQ4 (by rw[g7];decide),g7]
  simp (disch:=try exact z0z) only[WA,simprocAttr,c40]
  refine cF hC h4 ?_
  simp (disch:=try exact z0z) only[WA,simprocAttr]
  refine cF hC h6 ?_
  simp (disch:=try exact z0z) only[WA,simprocAttr,z6]
  refine r5 (fun m fr st=>m=0/\fr= [(1,.ptr 0 0),(4,.ref 1 0 1 1),(5,.ref 2 0 0 0),(6,iN 0)]/\st=⟨[(2,.row 5 1 false false []),(1,.row 54 7 false false (H4 [in1])),(0,dY 0 s k R)],3,0⟩) 0 ?_ ⟨_,_,.refl _ _,rfl,rfl,rfl⟩ ?_
  ·rw[hC,k9];unfold B6;omega
  rintro m fr st ⟨rfl,rfl,rfl⟩
  simp (disch:=try exact z0z) only[WA,simprocAttr,GC]
  refine r5 (fun m fr st=>∃ i:Nat,m=R.length - i/\i<=R.length/\fr= [(1,.ptr 0 0),(4,.ref 1 0 1 1),(5,.ref 2 0 0 0),(7,iN i)]/\st=⟨[(2,.row 5 1 false false []),(1,.row 54 7 false false (H4 [in1])),(0,dY 0 s k R)],3,0⟩) R.length ?_ ⟨_,_,.refl _ _,0,by omega,bA5 _,rfl,rfl⟩ ?_
  ·rw[hC,k9];unfold B6;omega
  rintro m fr st ⟨i,rfl,hi,rfl,rfl⟩
  have gj:=(N0 e1).1
  simp only at gj
  by_cases h2:i<R.length
  case neg=>
   simp (disch:=try exact z0z) only[WA,simprocAttr,GB]
   all_goals try omega
   exact Y8 (CZ rfl rfl) rfl (.inl (by decide)) h0 rfl
  have hl:=aH k R i h2
  have hm:=(hK.at h2).1
  have hd:H5 R[i]! = []:=bA8 (by rw[gN,he i h2];rfl)
  have he:=he i h2
  generalize R[i]! =r at*
  obtain ⟨b,L⟩:=r
  simp only at hl hm he
  subst he
  have hn:=bS1 w (n+2) k b [] (by simp) hm
  rw[hd] at hn
  simp (disch:=try exact z0z) only[WA,simprocAttr,GB,hl]
  all_goals try omega
  refine cN hC hn ?_
  repeat' (first|(simp (disch:=try exact z0z) only[WA,simprocAttr])|apply j8|((first|apply n7|apply m9|apply l8|apply n8|apply n6|apply l9)<;>intro _))
  refine r5 (fun m fr st=>m=0/\fr= [(1,.ptr 0 0),(4,.ref 1 0 1 1),(5,.ref 2 0 0 0),(7,iN i),(8,tS 3 []),(9,iN 0)]/\st=⟨[(2,.row 5 1 false false []),(1,.row 54 7 false false (H4 [in1])),(0,dY 0 s k R)],3,0⟩) 0 ?_ ⟨_,_,.refl _ _,rfl,rfl,rfl⟩ ?_
  ·rw[hC,k9];unfold B6;omega
  rintro m fr st ⟨rfl,rfl,rfl⟩
  simp (disch:=try exact z0z) only[WA,simprocAttr,qH]
  refine r5 (fun m fr st=>m=0/\fr= [(1,.ptr 0 0),(4,.ref 1 0 1 1),(5,.ref 2 0 0 0),(7,iN i),(8,tS 3 []),(10,iN 0)]/\st=⟨[(2,.row 5 1 false false []),(1,.row 54 7 false false (H4 [in1])),(0,dY 0 s k R)],3,0⟩) 0 ?_ ⟨_,_,.refl _ _,rfl,rfl,rfl⟩ ?_
  ·rw[hC,k9];unfold B6;omega
  rintro m fr st ⟨rfl,rfl,rfl⟩
  simp (disch:=try exact z0z) only[WA,simprocAttr,vL]
  exact ⟨R.length - (i+1),_,_,by omega,.refl _ _,i+1,rfl,by omega,rfl,rfl⟩
 ·have g8:=fun nx t=>cI nx t 1 (.int .u8 0) rfl .i64 .i64 (z:Int) (z:Int) (by omega) (by omega) (by omega) (by omega)
  rw[cJ2,PU] at g8
  have gk:=G7 (A9 z R)
  simp (disch:=try exact z0z) only[WA,simprocAttr,c40]
  refine cF hC h4 ?_
  simp (disch:=try exact z0z) only[WA,simprocAttr]
  refine cF hC h6 ?_
  simp (disch:=try exact z0z) only[WA,simprocAttr,z6,g8]
  refine aV8 w (n+4) hC h0 z (by omega) (by omega) s k R _ ?_
  simp (disch:=try exact z0z) only[WA,simprocAttr]
  refine aV9 w (n+1) hC h0 z (by omega) hx.2 s k R hK e1 hx.1 fun B=>?_
  by_cases hb:2000<(A9 z R).length
  ·rw[aO9 hb]
   simp (disch:=try exact z0z) only[WA,simprocAttr]
   all_goals try omega
   exact E2 h0 rfl
  ·rw[aQ4 hb]
   simp (disch:=try exact z0z) only[WA,simprocAttr]
   all_goals try omega
   exact Y8 (VZ rfl gk) rfl (.inl (by decide)) h0 rfl
end
section
variable (w:World) (n:Nat)
theorem aT0 (s:Nat) (L:List u6) (hL:L.length<=140737488351232):m0 (EN w (n+1)) 38 [tS s L] (.sc (.bool (MW L.length))) ⟨[],0,0⟩:=by
 unfold MW
 refine vF rfl fun C hC h0=>?_
 by_cases h1:60<L.length
 ·by_cases h2:L.length<=200
  ·rw[dA1 (.inl ⟨h1,h2⟩)]
   simp (disch:=try exact z0z) only[WA,simprocAttr,c38]
   all_goals try omega
   exact d7 rfl h0 rfl
  ·by_cases h3:300<L.length
   ·rw[dA1 (.inr h3)]
    simp (disch:=try exact z0z) only[WA,simprocAttr,c38]
    all_goals try omega
    exact d7 rfl h0 rfl
   ·rw[dA7 (by omega)]
    simp (disch:=try exact z0z) only[WA,simprocAttr,c38]
    all_goals try omega
    exact d7 rfl h0 rfl
 ·rw[dA7 (by omega)]
  simp (disch:=try exact z0z) only[WA,simprocAttr,c38]
  all_goals try omega
  exact d7 rfl h0 rfl
def tP:Nat->List (Bool × List u6)->Bool
 |0,_=>false
 |_,[]=>false
 |f+1,r::R=>MW r.2.length||tP f R
def ZP (R:List (Bool × List u6)):Bool:=tP 150 R||decide (12<R.length/\R.length<=100\/150<R.length)
theorem aT1 (s k:Nat) (z:Int) (R:List (Bool × List u6)) (hc:R.length<=140737488351232) (hK:fB R):m0 (EN w (n+2)) 9 [O2 s k (z,R)] (.sc (.bool (ZP R))) ⟨[],0,0⟩:=by
 have h8:=D9 k R
 unfold ZP
 refine vF rfl fun C hC h0=>?_
 have h7:C.E.rounds=B6:=by rw[hC,k9]
 simp (disch:=try exact z0z) only[WA,simprocAttr,c9]
 refine r5 (fun m fr st=>∃ j:Nat,m=150 - j/\j<=R.length/\j<=150/\tP 150 R=tP (150 - j) (R.drop j)/\fr= [(1,.ptr 0 0),(3,iN j)]/\st=⟨[(0,dY z s k R)],1,0⟩) 150 ?_ ⟨_,_,.refl _ _,0,by omega,bA5 _,by omega,rfl,rfl,rfl⟩ ?_
 ·rw[h7];unfold B6;omega
 rintro m fr st ⟨j,rfl,hj,h9,h4,rfl,rfl⟩
 by_cases h5:j<R.length/\j<150
 ·obtain ⟨h5,ha⟩:=h5
  have h6:=nH k R j h5
  have hm:=(hK.at h5).2
  have hg:=aT0 w n k R[j]!.2 hm
  rw[fJ h5,show 150 - j=(150 - (j+1))+1 by omega,tP] at h4
  generalize R[j]!.2=L at*
  rw[h4]
  cases hb:MW L.length with
  |true=>
   rw[hb] at hg
   rw[Bool.true_or,Bool.true_or]
   simp (disch:=try exact z0z) only[WA,simprocAttr,bE0,h6]
   all_goals try omega
   refine cF hC hg ?_
   simp (disch:=try exact z0z) only[WA,simprocAttr]
   exact d7 rfl h0 rfl
  |false=>
   rw[hb] at hg
   rw[hb,Bool.false_or] at h4
   rw[Bool.false_or]
   simp (disch:=try exact z0z) only[WA,simprocAttr,bE0,h6]
   all_goals try omega
   refine cF hC hg ?_
   simp (disch:=try exact z0z) only[WA,simprocAttr]
   exact ⟨150 - (j+1),_,_,by omega,.refl _ _,j+1,rfl,by omega,by omega,congrArg (fun x=>tP x _) (by omega),rfl,rfl⟩
 ·have he:tP (150 - j) (R.drop j)=false:=by
   by_cases h:j=150
   ·subst h;rfl
   ·have:j=R.length:=by omega
    subst this
    rw[dJ6,show 150 - R.length=(149 - R.length)+1 by omega];rfl
  rw[h4,he,Bool.false_or]
  by_cases h1:12<R.length/\R.length<=100\/150<R.length
  ·rw[dA1 h1]
   by_cases h2:j<R.length
   all_goals
    repeat' (first|(simp (disch:=try exact z0z) only[WA,simprocAttr,bE0]))
    all_goals try omega
    all_goals exact d7 rfl h0 rfl
  ·rw[dA7 h1]
   by_cases h2:j<R.length
   all_goals
    repeat' (first|(simp (disch:=try exact z0z) only[WA,simprocAttr,bE0])|(apply m9<;>intro _))
    all_goals try omega
    all_goals exact d7 rfl h0 rfl
end
def LX (z m:Nat):List D:=List.replicate m (.sc (.int .i64 (z:Int)))
theorem xN (z m:Nat):(LX z m).length=m:=dL6
theorem bE7 (z m:Nat):LX z (m+1)=LX z m++ [.sc (.int .i64 (z:Int))]:=List.replicate_succ'
theorem cR7 (z m k:Nat) (h:k<m):C0 (LX z m) k none=some (.sc (.int .i64 (z:Int))):=by
 have e:LX z m=(List.replicate m (Value.int .i64 (z:Int))).map D.sc:=by unfold LX;rw[List.map_replicate]
 rw[e,mR _ _ _ (by simpa using h),bA7 _ k (by simpa using h),List.getElem_replicate]
 rfl
theorem bS8 {H:E9} {o t n:Nat} {z:Bool} {l:List D} (h:j7 H o=some (.gro t 1 z l)) (hl:l.length=n):D1 H (.gr 2 o n)=some (.sl 2 n l):=by
 simp only[D1,dS,h]
 rw[aO9 ⟨by omega,by decide,by decide,by decide⟩]
 rfl
theorem aB7 {H:E9} {o c t n:Nat} {g z:Bool} {l:List D} (h:j7 H o=some (.row t 1 g z l)) (hl:l.length=n):D1 H (.ref o 0 n c)=some (.sl 0 n l):=uP h (by omega)
def CnS (z j:Nat) (c:Itp.Obj) (st:n9):Prop:=j=0/\st=⟨[(3,Z0 0),(2,.box 57 1 [.ref 1 0 1 1]),(1,.row 3 1 false false (LX z 1)),(0,c)],4,0⟩\/0<j/\st=⟨[(4,.gro 3 1 false (LX z (j+1))),(3,Z0 0),(2,.box 57 1 [.gr 2 4 (j+1)]),(0,c)],5,0⟩
abbrev cnB (z:Nat):Itp.Obj:= .box 186 1 [iN z,iN z,iN 0]
section
variable (w:World) (n:Nat)
theorem ZC {E:G3} (z s k:Nat) (R:List (Bool × List u6)) (X:Itp.Obj) (Q2:V->n9->Prop)
  (h0:Q2 (.sc (.bool true)) ⟨[(6,.gro 3 1 false (LX z 2)),(5,cnB z),(3,Z0 0),(2,.box 57 1 [.gr 2 6 2]),(0,dY z s k R)],7,0⟩):
  sO E QF QG [(2,.sc (.slice none 0 0)),(3,iN 0),(5,.ptr 2 0)] [18,19] 3 [iN ((0:Nat):Int),.agg [iN z,iN z,iN 0]] ⟨[(5,cnB z),(4,X),(3,Z0 0),(2,.box 57 1 [.ref 1 0 1 1]),(1,.row 3 1 false false (LX z 1)),(0,dY z s k R)],6,0⟩ Q2:=by
 refine ⟨(by first|exact bA5 _|trivial),rfl,(by show (3:Nat)<6;decide),_,rfl,fun C4 hd h1=>?_⟩
 simp (disch:=try exact z0z) only[WA,simprocAttr,QF]
 refine ⟨trivial,(by first|exact bA5 _|trivial),trivial,?_⟩
 rw[show LX z 1= [.sc (.int .i64 (z:Int))] from rfl] at*
 rw[show LX z 2= [.sc (.int .i64 (z:Int)),.sc (.int .i64 (z:Int))] from rfl] at h0
 simp (disch:=try exact z0z) only[WA,simprocAttr,QG]
 refine ⟨(by first|exact bA5 _|trivial),trivial,_,R9 [(8,6),(5,5),(3,3),(2,2),(0,0)] 7 (by rw[h1];exact cJ5 rfl) rfl (by rw[h1];rfl) rfl rfl,?_⟩
 exact h0
theorem ZD {E:G3} (z s k:Nat) (R:List (Bool × List u6)) (X:Itp.Obj) (j:Nat) (hj:j<=1000) (Q2:V->n9->Prop)
  (h0:Q2 (.sc (.bool true)) ⟨[(7,.gro 3 1 false (LX z (j+2))),(6,cnB z),(3,Z0 0),(2,.box 57 1 [.gr 2 7 (j+2)]),(0,dY z s k R)],8,0⟩):
  sO E QF QG [(2,.sc (.slice none 0 0)),(3,iN 0),(5,.ptr 2 0)] [18,19] 3 [iN j,.agg [iN z,iN z,iN 0]] ⟨[(6,cnB z),(5,X),(4,.gro 3 1 false (LX z (j+1))),(3,Z0 0),(2,.box 57 1 [.gr 2 4 (j+1)]),(0,dY z s k R)],7,0⟩ Q2:=by
 refine ⟨(by first|exact bA5 _|trivial),rfl,(by show (3:Nat)<7;decide),_,rfl,fun C4 hd h1=>?_⟩
 have hs:=bE7 z (j+1)
 have hl:=xN z (j+1)
 simp (disch:=try exact z0z) only[WA,simprocAttr,QF]
 refine ⟨trivial,(by first|exact bA5 _|trivial),trivial,?_⟩
 rw[show j+2=j+1+1 from rfl,hs] at h0
 generalize LX z (j+1)=A at*
 simp (disch:=try exact z0z) only[WA,simprocAttr,QG]
 all_goals try omega
 refine ⟨(by first|exact bA5 _|trivial),trivial,_,R9 [(9,7),(6,6),(3,3),(2,2),(0,0)] 8 (by rw[h1];exact cJ5 rfl) rfl (by rw[h1];rfl) rfl rfl,?_⟩
 exact h0
theorem bF0 (s k:Nat) (hs:s ≠ 1) (z:Nat) (hz:z<=1000) (R:List (Bool × List u6)) (hK:fB R) (h3:X5 ((z:Int),R)=0) (h8:Z6 R=true):m0 (EN w (n+10)) 87 [O2 s k (z,R)] (.tup [.sl 3 (R.length+1) (LX z (R.length+1)),iN 0]) ⟨[],0,0⟩:=by
 have hn:=D9 k R
 have hR:=(N0 h3).1
 simp only at hR
 have h9:=sX w n s k hs z R (by omega) hK
 rw[h3] at h9
 have he:=GL w (n+8) s k hs z R
 refine vG rfl aG fun C hC h0=>?_
 simp (disch:=try exact z0z) only[WA,simprocAttr,c87]
 refine cF hC h9 ?_
 simp (disch:=try exact z0z) only[WA,simprocAttr]
 refine bE (by rw[hC];exact he) rfl rfl rfl ?_
 simp (disch:=try exact z0z) only[WA,simprocAttr,pX,wT,shO,mD,S5,fA]
 refine SP (fr':= [(2,.sc (.slice none 0 0)),(3,iN 0),(5,.ptr 2 0),(17,.fn 160 [] [.ptr 0 0])]) (st':=⟨[(2,.box 57 1 [.ref 1 0 1 1]),(1,.row 3 1 false false (LX z 1)),(0,dY z s k R)],3,0⟩) ?_ ?_
 ·exact o9 [(2,2),(1,1),(3,0)] 3 h0 rfl rfl rfl rfl
 refine MU hC rfl rfl rfl (cJ5 rfl) rfl (bA5 _) fun C2 h4 hf h5 h6 hT=>?_
 simp (disch:=try exact z0z) only[WA,simprocAttr,cQ5]
 refine r5 (fun m fr st=>∃ (j:Nat),m=R.length - j/\j<=R.length/\CnS z j (dY z s k R) st/\fr= [(0,.tok 3),(3,iN z),(12,.sl s R.length (C3 k R)),(13,iN R.length),(14,iN j)]) R.length ?_ ⟨_,_,.refl _ _,0,by omega,(by first|exact bA5 _|trivial),.inl ⟨rfl,rfl⟩,rfl⟩ ?_
 ·rw[hf];unfold B6;omega
 rintro m fr st ⟨j,rfl,hj,hv,rfl⟩
 by_cases h2:j<R.length
 case neg=>
  have:j=R.length:=by omega
  subst this
  have hg:=xN z (R.length+1)
  rcases hv with ⟨hh,rfl⟩|⟨hi,rfl⟩
  ·simp (disch:=try exact z0z) only[WA,simprocAttr,iI]
   all_goals try omega
   refine ⟨fun i h=>(by cases h),(by first|exact bA5 _|trivial),0,.normal,rfl,rfl,?_⟩
   rw[hh]
   simp (disch:=try exact z0z) only[WA,simprocAttr]
   exact Y8 (aB7 rfl (xN z 1)) rfl (.inl (by decide)) h0 rfl
  ·simp (disch:=try exact z0z) only[WA,simprocAttr,iI]
   all_goals try omega
   refine ⟨fun i h=>(by cases h),(by first|exact bA5 _|trivial),0,.normal,rfl,rfl,?_⟩
   simp (disch:=try exact z0z) only[WA,simprocAttr]
   exact Y8 (bS8 rfl hg) rfl (.inl (by decide)) h0 rfl
 have ha:=aH k R j h2
 have hk:=hK.at h2
 have hu:=aO5 w (n+1) k R[j]!.2 hk.2 hk.1
 have hm:=VY w (n+1) k R[j]!.2 hk.2 hk.1
 have hb:=dP h3 h8 h2
 have h7:=QM h3 h2
 simp only at h7
 have hc:=DI (CN h8 h2)
 unfold sG at hu
 unfold jA at hm
 rw[aO9 h7,hc.1,hb] at hu
 rw[aO9 h7,hc.2,hb] at hm
 generalize hr:R[j]! =r at*
 obtain ⟨b,L⟩:=r
 simp only at hu hm hk
 rcases hv with ⟨rfl,rfl⟩|⟨hi,rfl⟩
 ·simp (disch:=try exact z0z) only[WA,simprocAttr,iI,ha]
  all_goals try omega
  refine m8 ((hu.flat rfl rfl).env h5 h6) ?_
  simp (disch:=try exact z0z) only[WA,simprocAttr]
  refine m8 ((hm.flat rfl rfl).env h5 h6) ?_
  simp (disch:=try exact z0z) only[WA,simprocAttr]
  refine hT _ _ _ (ZC z s k R _ _ ?_)
  simp (disch:=try exact z0z) only[WA,simprocAttr]
  exact ⟨R.length - 1,_,_,by omega,R9 [(6,4),(3,3),(2,2),(0,0)] 5 (by rw[h4];exact cJ5 rfl) rfl (by rw[h4];rfl) rfl rfl,1,by omega,by omega,.inr ⟨by omega,rfl⟩,rfl⟩
 ·simp (disch:=try exact z0z) only[WA,simprocAttr,iI,ha]
  all_goals try omega
  refine m8 ((hu.flat rfl rfl).env h5 h6) ?_
  simp (disch:=try exact z0z) only[WA,simprocAttr]
  refine m8 ((hm.flat rfl rfl).env h5 h6) ?_
  simp (disch:=try exact z0z) only[WA,simprocAttr]
  refine hT _ _ _ (ZD z s k R _ j (by omega) _ ?_)
  simp (disch:=try exact z0z) only[WA,simprocAttr]
  exact ⟨R.length - (j+1),_,_,by omega,R9 [(7,4),(3,3),(2,2),(0,0)] 5 (by rw[h4];exact cJ5 rfl) rfl (by rw[h4];rfl) rfl rfl,j+1,rfl,by omega,.inr ⟨by omega,rfl⟩,rfl⟩
end
theorem CK:∀ (R:List (Bool × List u6)) (z:Int) (i:Nat),W7 z R=0->W7 z (R.take i)=0
 | [],_,i,_=>by rw[List.take_nil];rfl
 |r::R,z,0,_=>rfl
 |r::R,z,i+1,h=>by
  by_cases h1:M4 r.2=0
  case neg=>rw[gF h1] at h;exact absurd h h1
  by_cases h2:H9 H2 r.2=z
  case neg=>rw[gH h1 h2] at h;cases h
  rw[gJ h1 h2] at h
  rw[dL3,gJ h1 h2]
  exact CK R _ i h
theorem aR5 {z:Int} {R:List (Bool × List u6)} (h:X5 (z,R)=0) (i:Nat):X5 (z,R.take i)=0:=by
 obtain ⟨h1,h2,h3,h4⟩:=N0 h
 simp only at h1 h2 h3 h4
 have:=List.length_take_le' i R
 unfold X5
 rw[aQ4 (by simp only;omega),aQ4 (by simp only;omega)]
 exact CK R z i h4
theorem aV4 {R:List (Bool × List u6)} (h:Z6 R=true) (i:Nat):Z6 (R.take i)=true:=by
 unfold Z6 at*
 rw[bB3] at*
 exact fun x hx=>h x (dM0 hx)
theorem FH {R:List (Bool × List u6)} (h:fB R) (i:Nat):fB (R.take i):=fun r hr=>h r (dM0 hr)
theorem CM:∀ (R:List (Bool × List u6)) (i:Nat) (B:List Bool) (m:Nat),(eN i B (R.take m)).length<=(eN i B R).length
 | [],_,_,m=>by rw[List.take_nil];exact aQ5 _
 |r::R,i,B,0=>bA5 _
 |r::R,i,B,m+1=>by
  rw[dL3,eN,eN,bA4,bA4]
  have:=CM R (i+1) (B7 B (H5 r) (H5 r).length) m
  omega
theorem zA {z:Nat} {R:List (Bool × List u6)} (h:(T3 ((z:Int),R)).2=0):X5 ((z:Int),R)=0/\Z6 R=true/\z<=101/\(A9 z R).length<=2000/\(T3 ((z:Int),R)).1=A9 z R:=by
 unfold T3 at h ⊢
 by_cases e1:X5 ((z:Int),R)=0
 case neg=>rw[aO9 e1] at h;exact absurd h e1
 rw[aQ4 (fun x=>x e1)] at h ⊢
 by_cases e2:xC ((z:Int),R)=true
 case neg=>rw[aQ4 e2] at h;cases h
 rw[aO9 e2] at h ⊢
 have e3:=e2
 unfold xC at e3
 simp only[aO3,cT5] at e3
 simp only[cJ2] at h ⊢
 by_cases e4:2000<(A9 z R).length
 ·rw[aO9 e4] at h;cases h
 ·rw[aQ4 e4];exact ⟨e1,e3.1,by omega,by omega,rfl⟩
theorem zD {z:Nat} {R:List (Bool × List u6)} (h:(T3 ((z:Int),R)).2=0) (i:Nat):T3 ((z:Int),R.take i)=(A9 z (R.take i),0):=by
 obtain ⟨h1,h2,h3,h4,_⟩:=zA h
 have hl:(A9 z (R.take i)).length<=2000:=by
  unfold A9 at h4 ⊢
  rw[bA4] at h4 ⊢
  have:=CM R 0 (List.replicate z false) i
  omega
 unfold T3
 rw[aQ4 (fun x=>x (aR5 h1 i)),aO9 (by unfold xC;simp only[aO3,cT5];exact ⟨aV4 h2 i,by omega⟩)]
 simp only[cJ2]
 rw[aQ4 (by omega)]
theorem cK7 {R:List (Bool × List u6)} (h1:X5 ((0:Nat),R)=0) (h2:Z6 R=true):A9 0 R= [in1]:=by
 unfold A9
 rw[show List.replicate 0 false= [] from rfl,nJ R 0 fun r hr=>by
  obtain ⟨i,hi,rfl⟩:=dL4 hr
  have:R[i]!.2= []:=bA8 (dP h1 h2 hi)
  rwa [bA7 R i hi] at this]
 rfl
theorem BO (k:Nat) (R:List (Bool × List u6)) (i:Nat) (h:i<=R.length):partD (C3 k R) 0 (i*2)=C3 k (R.take i):=by
 have h1:(C3 k (R.take i)).length=i*2:=by rw[D9,cV7];congr 1;omega
 have h2:C3 k R=C3 k (R.take i)++C3 k (R.drop i):=by rw[<- JL,List.take_append_drop]
 unfold partD
 rw[h2,Nat.sub_zero,dD7,List.take_left' h1]
section
variable (w:World) (n:Nat)
theorem cV0 (k:Nat) (z:Nat) (hz:0<z) (R:List (Bool × List u6)) (hK:fB R) (h5:X5 ((z:Int),R)=0) (h6:Z6 R=true) (i:Nat) (hi:i<=R.length):m0 (EN w (n+11)) 39 [O2 3 k (z,R),iN 0,iN i] (.tup [O2 3 0 (z,R.take i),iN 0]) ⟨[],0,0⟩:=by
 have hR:=(N0 h5)
 simp only at hR
 have he:=D9 k R
 have h9:=bF0 w n 3 k (by decide) z (by omega) R hK h5 h6
 have h7:=cX1 w (n+9) 3 k (R.take i) (by rw[cV7];omega) fun r hr=>by
  have ha:=dM0 hr
  obtain ⟨j,hj,rfl⟩:=dL4 ha
  have:=dP h5 h6 hj
  rw[bA7 R j hj] at this
  rw[this];omega
 have hb:=BO k R i hi
 have h8:(R.take i).length=i:=by rw[cV7];omega
 rw[h8] at h7
 have hc:=xN z (R.length+1)
 have hd:C0 (LX z (R.length+1)) 0 none=some (iN z):=cR7 z (R.length+1) 0 (by omega)
 show m0 (EN w (n+11)) 39 [O2 3 k (z,R),iN 0,iN i] (.tup [.agg [iN z,.sl 3 (R.take i).length (C3 0 (R.take i))],iN 0]) ⟨[],0,0⟩
 rw[h8]
 refine vG rfl (uH (by simp only[Cl,YF,and_true,true_and];rfl)) fun C hC h0=>?_
 generalize LX z (R.length+1)=A at*
 simp (disch:=try exact z0z) only[WA,simprocAttr,c39]
 refine cN hC h9 ?_
 simp (disch:=try exact z0z) only[WA,simprocAttr,hc,hd,hb,tn0,Nat.sub_zero,Nat.zero_mul]
 all_goals try omega
 refine oS trivial trivial (by rw[hC];exact h7) rfl rfl (fun _=>rfl) ?_
 simp (disch:=try exact z0z) only[WA,simprocAttr,ZO]
 exact o9 [] 0 h0 rfl rfl rfl rfl
end
def wrF (z:Nat) (R:List (Bool × List u6)) (p:Int):Nat->Nat->Nat
 |0,i=>i
 |f+1,i=>if p<(A9 z (R.take i)).length then i else wrF z R p f (i+1)
def EK (c:ChT) (p:Int):Int × Int × Int:=
 if (T3 c).2 ≠ 0 then (0,0,(T3 c).2) else if p<0\/(T3 c).1.length<=p then (0,0,2) else if p=0 then (-1,-1,0) else ((wrF c.1.toNat c.2 p c.2.length 0:Int) - 1,((T3 c).1[p.toNat]!).pos,0)
def whV (r:Int × Int × Int):V:= .tup [iN r.1,iN r.2.1,iN r.2.2]
theorem SZ (L:List E5) (k:Nat) (hk:k<L.length):C0 (H4 L) (k*7+3) none=some (iN L[k]!.pos):=bH (fun a:E5=>(EZ a).map D.sc) 7 L (fun _=>rfl) k 3 hk (by decide)
section
variable (w:World) (n:Nat)
theorem cJ0 (k:Nat) (hk:k=1\/k=2\/k=0) (zi:Int) (R:List (Bool × List u6)) (hR:R.length<=140737488351232) (hK:fB R) (p:Int):m0 (EN w (n+12)) 11 [O2 3 k (zi,R),iN p] (whV (EK (zi,R) p)) ⟨[],0,0⟩:=by
 have h1:=GH w n 3 k (by decide) hk zi R hR hK
 have he:=D9 k R
 unfold EK
 by_cases e1:(T3 (zi,R)).2=0
 case neg=>
  rw[aO9 e1]
  generalize T3 (zi,R)=cf at*
  obtain ⟨P,e⟩:=cf
  simp only at e1
  refine vF rfl fun C hC h0=>?_
  unfold whV
  simp (disch:=try exact z0z) only[WA,simprocAttr,c11]
  refine cN hC h1 ?_
  simp (disch:=try exact z0z) only[WA,simprocAttr,e1]
  exact d7 rfl h0 rfl
 rw[aQ4 (fun h=>h e1)]
 obtain ⟨z,rfl⟩:∃ z:Nat,zi=z:=⟨zi.toNat,by
  have:X5 (zi,R)=0:=by
   unfold T3 at e1
   by_cases h:X5 (zi,R)=0
   ·exact h
   ·rw[aO9 h] at e1;exact absurd e1 h
  have:=N0 this
  simp only at this
  omega⟩
 obtain ⟨c1,c2,c3,c4,c5⟩:=zA e1
 have h7:=fun i=>zD e1 i
 have h8:=N0 c1
 simp only at h8
 rw[show T3 ((z:Int),R)=(A9 z R,0) from Prod.ext c5 e1] at h1 ⊢
 simp only[cJ2]
 have hf:=G7 (A9 z R)
 by_cases e2:p<0
 ·rw[aO9 (.inl e2)]
  refine vF rfl fun C hC h0=>?_
  unfold whV
  generalize A9 z R=P at*
  simp (disch:=try exact z0z) only[WA,simprocAttr,c11]
  refine cN hC h1 ?_
  simp (disch:=try exact z0z) only[WA,simprocAttr]
  all_goals try omega
  exact d7 rfl h0 rfl
 by_cases e3:((A9 z R).length:Int)<=p
 ·rw[aO9 (.inr e3)]
  refine vF rfl fun C hC h0=>?_
  unfold whV
  generalize A9 z R=P at*
  simp (disch:=try exact z0z) only[WA,simprocAttr,c11]
  refine cN hC h1 ?_
  simp (disch:=try exact z0z) only[WA,simprocAttr]
  all_goals try omega
  exact d7 rfl h0 rfl
 rw[aQ4 (fun h=>h.elim e2 e3)]
 by_cases e4:p=0
 ·rw[aO9 e4]
  subst e4
  refine vF rfl fun C hC h0=>?_
  unfold whV
  generalize A9 z R=P at*
  simp (disch:=try exact z0z) only[WA,simprocAttr,c11]
  refine cN hC h1 ?_
  simp (disch:=try exact z0z) only[WA,simprocAttr]
  all_goals try omega
  exact d7 rfl h0 rfl
 rw[aQ4 e4]
 have hz:0<z:=by
  rcases dI6 z with h|h
  ·subst h
   rw[cK7 c1 c2] at e3
   simp at e3
   omega
  ·exact h
 obtain ⟨pn,rfl⟩:∃ pn:Nat,p=pn:=⟨p.toNat,by omega⟩
 have h4:=SZ (A9 z R) pn (by omega)
 have hg:=fun i hi=>cV0 w n k z hz R hK c1 c2 i hi
 have h9:=fun i=>GH w n 3 0 (by decide) (.inr (.inr rfl)) z (R.take i) (by have:=List.length_take_le' i R;omega) (FH hK i)
 simp only[cJ2]
 refine vF rfl fun C hC h0=>?_
 have ha:C.E.rounds=B6:=by rw[hC,k9]
 unfold whV
 have h5:∀ f i,wrF z R pn (f+1) i=if (pn:Int)<(A9 z (R.take i)).length then i else wrF z R pn f (i+1):=fun _ _=>rfl
 generalize hP:A9 z R=P at*
 simp (disch:=try exact z0z) only[WA,simprocAttr,c11]
 refine cN hC h1 ?_
 simp (disch:=try exact z0z) only[WA,simprocAttr]
 all_goals try omega
 refine r5 (fun m fr st=>∃ i:Nat,m=R.length - i/\i<=R.length/\wrF z R pn R.length 0=wrF z R pn (R.length - i) i/\fr= [(1,iN pn),(2,.ptr 0 0),(4,iN ((i:Int) - 1)),(7,jS 3 P),(32,iN R.length),(33,iN i)]/\st=⟨[(0,dY z 3 k R)],1,0⟩) R.length ?_ ⟨_,_,.refl _ _,0,by omega,bA5 _,rfl,rfl,rfl⟩ ?_
 ·rw[ha];unfold B6;omega
 rintro m fr st ⟨i,rfl,hi,h2,rfl,rfl⟩
 by_cases hn:i<R.length
 case neg=>
  have:i=R.length:=by omega
  subst this
  rw[h2,Nat.sub_self,wrF]
  simp (disch:=try exact z0z) only[WA,simprocAttr,aE3,h4]
  all_goals try omega
  exact d7 rfl h0 rfl
 rw[show R.length - i=(R.length - (i+1))+1 by omega,h5] at h2
 have hd:=hg i hi
 have h3:=h9 i
 rw[h7 i] at h3
 have hh:=G7 (A9 z (R.take i))
 have hc:(i:Int) - 1+1=i:=by omega
 have hj:((i+1:Nat):Int) - 1=i:=by omega
 by_cases hb:(pn:Int)<(A9 z (R.take i)).length
 ·rw[aO9 hb] at h2
  rw[h2]
  generalize A9 z (R.take i)=Q at*
  simp (disch:=try exact z0z) only[WA,simprocAttr,aE3,hc]
  all_goals try omega
  refine cN hC hd ?_
  simp (disch:=try exact z0z) only[WA,simprocAttr]
  refine cN hC h3 ?_
  simp (disch:=try exact z0z) only[WA,simprocAttr,h4]
  all_goals try omega
  exact d7 rfl h0 rfl
 ·rw[aQ4 hb] at h2
  generalize A9 z (R.take i)=Q at*
  simp (disch:=try exact z0z) only[WA,simprocAttr,aE3,hc]
  all_goals try omega
  refine cN hC hd ?_
  simp (disch:=try exact z0z) only[WA,simprocAttr]
  refine cN hC h3 ?_
  simp (disch:=try exact z0z) only[WA,simprocAttr,hc]
  all_goals try omega
  exact ⟨R.length - (i+1),_,_,by omega,o9 [(0,0)] 1 h0 rfl rfl rfl rfl,i+1,rfl,by omega,h2,by rw[hj];rfl,rfl⟩
theorem bR4 (k:Nat) (zi:Int) (R:List (Bool × List u6)) (hR:R.length<=140737488351232) (hK:fB R) (p:Int):m0 (EN w (n+7)) 12 [O2 3 k (zi,R),iN p] (whV (EK (zi,R) p)) ⟨[],0,0⟩:=by
 have h1:=BZ w n 3 k zi R hR hK
 have he:=D9 k R
 unfold EK
 by_cases e1:(T3 (zi,R)).2=0
 case neg=>
  rw[aO9 e1]
  generalize T3 (zi,R)=cf at*
  obtain ⟨P,e⟩:=cf
  simp only at e1
  refine vF rfl fun C hC h0=>?_
  unfold whV
  simp (disch:=try exact z0z) only[WA,simprocAttr,c12]
  refine cN hC h1 ?_
  simp (disch:=try exact z0z) only[WA,simprocAttr,e1]
  exact d7 rfl h0 rfl
 rw[aQ4 (fun h=>h e1)]
 obtain ⟨z,rfl⟩:∃ z:Nat,zi=z:=⟨zi.toNat,by
  have:X5 (zi,R)=0:=by
   unfold T3 at e1
   by_cases h:X5 (zi,R)=0
   ·exact h
   ·rw[aO9 h] at e1;exact absurd e1 h
  have:=N0 this
  simp only at this
  omega⟩
 obtain ⟨c1,c2,c3,c4,c5⟩:=zA e1
 have h7:=fun i=>zD e1 i
 have h8:=N0 c1
 simp only at h8
 rw[show T3 ((z:Int),R)=(A9 z R,0) from Prod.ext c5 e1] at h1 ⊢
 simp only[cJ2]
 have hf:=G7 (A9 z R)
 by_cases e2:p<0
 ·rw[aO9 (.inl e2)]
  refine vF rfl fun C hC h0=>?_
  unfold whV
  generalize A9 z R=P at*
  simp (disch:=try exact z0z) only[WA,simprocAttr,c12]
  refine cN hC h1 ?_
  simp (disch:=try exact z0z) only[WA,simprocAttr]
  all_goals try omega
  exact d7 rfl h0 rfl
 by_cases e3:((A9 z R).length:Int)<=p
 ·rw[aO9 (.inr e3)]
  refine vF rfl fun C hC h0=>?_
  unfold whV
  generalize A9 z R=P at*
  simp (disch:=try exact z0z) only[WA,simprocAttr,c12]
  refine cN hC h1 ?_
  simp (disch:=try exact z0z) only[WA,simprocAttr]
  all_goals try omega
  exact d7 rfl h0 rfl
 rw[aQ4 (fun h=>h.elim e2 e3)]
 by_cases e4:p=0
 ·rw[aO9 e4]
  subst e4
  refine vF rfl fun C hC h0=>?_
  unfold whV
  generalize A9 z R=P at*
  simp (disch:=try exact z0z) only[WA,simprocAttr,c12]
  refine cN hC h1 ?_
  simp (disch:=try exact z0z) only[WA,simprocAttr]
  all_goals try omega
  exact d7 rfl h0 rfl
 rw[aQ4 e4]
 have hz:0<z:=by
  rcases dI6 z with h|h
  ·subst h
   rw[cK7 c1 c2] at e3
   simp at e3
   omega
  ·exact h
 obtain ⟨pn,rfl⟩:∃ pn:Nat,p=pn:=⟨p.toNat,by omega⟩
 have h4:=SZ (A9 z R) pn (by omega)
 have h9:=fun i=>BZ w n 3 k z (R.take i) (by have:=List.length_take_le' i R;omega) (FH hK i)
 have h6:=fun i hi=>BO k R i hi
 simp only[cJ2]
 refine vF rfl fun C hC h0=>?_
 have ha:C.E.rounds=B6:=by rw[hC,k9]
 unfold whV
 have h5:∀ f i,wrF z R pn (f+1) i=if (pn:Int)<(A9 z (R.take i)).length then i else wrF z R pn f (i+1):=fun _ _=>rfl
 have hl:A9 z (R.take R.length)=A9 z R:=by rw[dJ4]
 generalize hP:A9 z R=P at*
 simp (disch:=try exact z0z) only[WA,simprocAttr,c12]
 refine cN hC h1 ?_
 simp (disch:=try exact z0z) only[WA,simprocAttr]
 all_goals try omega
 refine r5 (fun m fr st=>∃ i:Nat,m=R.length+1 - i/\i<=R.length/\wrF z R pn R.length 0=wrF z R pn (R.length - i) i/\fr= [(1,iN pn),(2,.ptr 0 0),(7,jS 3 P),(9,iN i)]/\st=⟨[(0,dY z 3 k R)],1,0⟩) (R.length+1) ?_ ⟨_,_,.refl _ _,0,by omega,bA5 _,rfl,rfl,rfl⟩ ?_
 ·rw[ha];unfold B6;omega
 rintro m fr st ⟨i,rfl,hi,h2,rfl,rfl⟩
 have h3:=h9 i
 rw[h7 i] at h3
 have hh:=G7 (A9 z (R.take i))
 have h6:=h6 i hi
 have hm:(R.take i).length=i:=by rw[cV7];omega
 have h3:m0 (EN w (n+6)) 40 [.agg [iN z,.sl 3 i (C3 k (R.take i))]] (jfV (A9 z (R.take i),0)) ⟨[],0,0⟩:=by
  have:O2 3 k ((z:Int),R.take i)= .agg [iN z,.sl 3 i (C3 k (R.take i))]:=by
   show V.agg [iN z,.sl 3 (R.take i).length (C3 k (R.take i))]=_
   rw[hm]
  rw[<- this];exact h3
 by_cases hb:(pn:Int)<(A9 z (R.take i)).length
 ·have hw:wrF z R pn R.length 0=i:=by
   rw[h2]
   rcases dI6 (R.length - i) with h|h
   ·rw[h,wrF]
   ·rw[show R.length - i=(R.length - i - 1)+1 by omega,h5,aO9 hb]
  rw[hw]
  generalize A9 z (R.take i)=Q at*
  simp (disch:=try exact z0z) only[WA,simprocAttr,bD1,h6]
  all_goals try omega
  refine oS trivial trivial (by rw[hC];exact h3) rfl rfl (fun _=>rfl) ?_
  simp (disch:=try exact z0z) only[WA,simprocAttr,h4,ZO,bJ7,bJ6,SN]
  all_goals try omega
  exact d7 rfl h0 rfl
 ·have ho:i ≠ R.length:=fun h=>by
   subst h
   rw[hl] at hb
   omega
  rw[show R.length - i=(R.length - (i+1))+1 by omega,h5,aQ4 hb] at h2
  generalize A9 z (R.take i)=Q at*
  simp (disch:=try exact z0z) only[WA,simprocAttr,bD1,h6]
  all_goals try omega
  refine oS trivial trivial (by rw[hC];exact h3) rfl rfl (fun _=>rfl) ?_
  simp (disch:=try exact z0z) only[WA,simprocAttr,ZO,bJ7,bJ6,SN]
  all_goals try omega
  exact ⟨R.length+1 - (i+1),_,_,by omega,.refl _ _,i+1,rfl,by omega,h2,rfl,rfl⟩
end
theorem Ev.ext' {x y:Ev} (h1:x.kind=y.kind) (h2:x.ins=y.ins) (h3:x.car=y.car):x=y:=by
 cases x;cases y;simp_all
instance:DecidableEq Ev:=fun x y=>decidable_of_iff (x.kind=y.kind/\x.ins=y.ins/\x.car=y.car) ⟨fun ⟨h1,h2,h3⟩=>Ev.ext' h1 h2 h3,fun h=>by subst h;exact ⟨rfl,rfl,rfl⟩⟩
abbrev eS (s:Nat) (L:List Ev):V:= .sl s L.length (PA L)
theorem bG8 (g:Bool) (x y:Ev):kO g [(0,0),(1,0),(2,2),(3,0),(4,0),(5,0),(6,0),(7,0),(8,0)] (eG x) (eG y)=some (.sc (.bool (aU4 g (decide (x=y))))):=by
 obtain ⟨a0,⟨a1,a2,a3,a4,a5,a6,a7⟩,a8⟩:=x
 obtain ⟨b0,⟨b1,b2,b3,b4,b5,b6,b7⟩,b8⟩:=y
 unfold eG
 rw[iS]
 simp only[aU,cE,eE,cD,mK,dJ7,E1,aI2,aX8]
 congr 4
 rw[dM5]
 simp only[aO3,beq_iff_eq,cT5,Ev.mk.injEq,E5.mk.injEq]
 constructor
 ·rintro ⟨h0,h1,h2,h3,h4,h5,h6,h7,h8⟩;exact ⟨by omega,⟨by omega,h2,by omega,h4,h5,h6,h7⟩,h8⟩
 ·rintro ⟨h0,⟨h1,h2,h3,h4,h5,h6,h7⟩,h8⟩;exact ⟨by omega,by omega,h2,by omega,h4,h5,h6,h7,h8⟩
def EU {α:Type} (p:α->Bool):List α->Nat->Int
 | [],_=> -1
 |x::r,k=>if p x=true then EU p r (k+1) else k
theorem PT {α:Type} {p:α->Bool}:∀ (L:List α) (k:Nat),(L.all p=true->EU p L k= -1)/\(L.all p=false->0<=EU p L k)
 | [],k=>⟨fun _=>rfl,fun h=>(by cases h)⟩
 |x::r,k=>by
  obtain ⟨h1,h2⟩:=PT (p:=p) r (k+1)
  rw[EU,dD3]
  cases p x with
  |true=>rw[aO9 rfl,dE6];exact ⟨h1,h2⟩
  |false=>rw[aQ4 (fun h=>by cases h),Bool.false_and];exact ⟨fun h=>(by cases h),fun _=>(by omega)⟩
theorem aF7 {L:List Ev} {k:Nat} (h:k<L.length):L.drop k=L[k]! ::L.drop (k+1):=by rw[dD0 h,bA7 L k h]
theorem bH1 (g:Bool) (x:E5):kO g [(0,0),(1,2),(2,0),(3,0),(4,0),(5,0),(6,0)] (.agg [.sc (.int .u8 x.op),.sc (.bool x.right),.sc (.int .u8 x.bed),.sc (.int .i64 x.pos),.sc (.int .i64 x.to),.sc (.int .i64 x.car),.sc (.int .i64 x.rack)]) (.agg [.sc (.int .u8 0),.sc (.bool false),.sc (.int .u8 0),.sc (.int .i64 0),.sc (.int .i64 0),.sc (.int .i64 0),.sc (.int .i64 0)])=some (.sc (.bool (aU4 g (decide (x=Q7))))):=aS3 g x Q7
theorem RJ (k:Nat) (i:E5) (c:Int):k=1/\c=0/\S3 ⟨k,i,c⟩=eJ i\/k=1/\c ≠ 0/\S3 ⟨k,i,c⟩=false\/(k=2\/k=3)/\decide (i=Q7)=false/\S3 ⟨k,i,c⟩=false\/(k=2\/k=3)/\decide (i=Q7)=true/\c<1/\S3 ⟨k,i,c⟩=false\/
  (k=2\/k=3)/\decide (i=Q7)=true/\6<c/\S3 ⟨k,i,c⟩=false\/(k=2\/k=3)/\decide (i=Q7)=true/\(1<=c/\c<=6)/\S3 ⟨k,i,c⟩=true\/(k ≠ 1/\k ≠ 2/\k ≠ 3)/\S3 ⟨k,i,c⟩=false:=by
 have hn:¬ evP ⟨k,i,c⟩->S3 ⟨k,i,c⟩=false:=fun h=>Bool.eq_false_iff.2 fun h2=>h (X8.1 h2)
 by_cases h1:k=1
 ·by_cases hc:c=0
  ·refine .inl ⟨h1,hc,?_⟩
   rw[dM5,X8,K4]
   constructor
   ·rintro (⟨_,_,h⟩|⟨h,_⟩)
    ·exact h
    ·simp only at h;omega
   ·intro h;exact .inl ⟨h1,hc,h⟩
  ·refine .inr (.inl ⟨h1,hc,hn ?_⟩)
   rintro (⟨_,h,_⟩|⟨h,_⟩)
   ·exact hc h
   ·simp only at h;omega
 by_cases h2:k=2\/k=3
 ·by_cases hi:i=Q7
  ·by_cases c1:c<1
   ·refine .inr (.inr (.inr (.inl ⟨h2,dA1 hi,c1,hn ?_⟩)))
    rintro (⟨h,_⟩|⟨_,_,h,_⟩)
    ·exact h1 h
    ·simp only at h;omega
   by_cases c2:6<c
   ·refine .inr (.inr (.inr (.inr (.inl ⟨h2,dA1 hi,c2,hn ?_⟩))))
    rintro (⟨h,_⟩|⟨_,_,_,h⟩)
    ·exact h1 h
    ·simp only at h;omega
   exact .inr (.inr (.inr (.inr (.inr (.inl ⟨h2,dA1 hi,⟨by omega,by omega⟩,X8.2 (.inr ⟨h2,hi,by simp only;omega,by simp only;omega⟩)⟩)))))
  ·refine .inr (.inr (.inl ⟨h2,dA7 hi,hn ?_⟩))
   rintro (⟨h,_⟩|⟨_,h,_⟩)
   ·exact h1 h
   ·exact hi h
 ·refine .inr (.inr (.inr (.inr (.inr (.inr ⟨⟨h1,by omega,by omega⟩,hn ?_⟩)))))
  rintro (⟨h,_⟩|⟨h,_⟩)
  ·exact h1 h
  ·exact h2 h
section
variable (w:World) (n:Nat)
theorem RK (x:Ev) (hk:x.kind<256):m0 (EN w (n+3)) 85 [eG x] (.sc (.bool (S3 x))) ⟨[],0,0⟩:=by
 have hi:=yQ w n x.ins
 have hz:=bH1 false x.ins
 obtain ⟨k,i,c⟩:=x
 simp only at hk hi hz
 unfold L2 at hi
 rcases RJ k i c with ⟨rfl,rfl,he⟩|⟨rfl,hc,he⟩|⟨h2,hq,he⟩|⟨h2,hq,hc,he⟩|⟨h2,hq,hc,he⟩|⟨h2,hq,⟨c1,c2⟩,he⟩|⟨⟨g1,g2,g3⟩,he⟩
 all_goals rw[he]
 ·clear hz
  cases hv:eJ i
  all_goals
   rw[hv] at hi
   simp only[if_true,cS5,if_false] at hi
   refine vF rfl fun C hC h0=>?_
   unfold eG
   repeat' (first|(simp (disch:=try exact z0z) only[WA,simprocAttr,c85]))
   refine cF hC hi ?_
   repeat' (first|(simp (disch:=try exact z0z) only[WA,simprocAttr]))
   exact d7 rfl h0 rfl
 ·refine vF rfl fun C hC h0=>?_
  unfold eG
  simp (disch:=try exact z0z) only[WA,simprocAttr,c85,hc]
  exact d7 rfl h0 rfl
 all_goals try rw[hq] at hz
 all_goals try (rcases h2 with rfl|rfl)
 all_goals try have e1:((k:Nat):Int) ≠ 1:=by omega
 all_goals try have e2:((k:Nat):Int) ≠ 2:=by omega
 all_goals try have e3:((k:Nat):Int) ≠ 3:=by omega
 all_goals
  refine vF rfl fun C hC h0=>?_
  unfold eG
  repeat' (first|(simp (disch:=try exact z0z) only[WA,simprocAttr,c85,hz]))
  all_goals try omega
  exact d7 rfl h0 rfl
theorem cS1 (x:Ev) (hk:x.kind<256):m0 (EN w (n+4)) 84 [eG x] (.sc (.bool (!S3 x))) ⟨[],0,0⟩:=by
 have hi:=RK w n x hk
 refine vF rfl fun C hC h0=>?_
 generalize S3 x=b at*
 unfold eG at hi ⊢
 simp (disch:=try exact z0z) only[WA,simprocAttr,c84]
 refine cF hC hi ?_
 simp (disch:=try exact z0z) only[WA,simprocAttr]
 exact d7 rfl h0 rfl
def KE (L:List Ev):Prop:=∀ x ∈ L,x.kind<256
theorem KE.at {L:List Ev} (h:KE L) {k:Nat} (hk:k<L.length):L[k]!.kind<256:=h _ (by rw[bA7 _ k hk];exact cN3 hk)
abbrev cS3:V:= .sc (.func (.func 84) #[] #[])
theorem bG5 (s:Nat) (L:List Ev) (hL:L.length<=140737488351232) (hK:KE L):m0 (EN w (n+5)) 130 [eS s L,cS3] (iN (EU S3 L 0)) ⟨[],0,0⟩:=by
 have hh:=iU L
 refine vF rfl fun C hC h0=>?_
 simp (disch:=try exact z0z) only[WA,simprocAttr,dB0]
 refine r5 (fun m fr st=>∃ (k:Nat),m=L.length - k/\k<=L.length/\EU S3 L 0=EU S3 (L.drop k) k/\fr= [(0,eS s L),(1,cS3),(7,iN L.length),(8,iN k)]/\st=⟨[],0,0⟩) L.length ?_ ⟨_,_,.refl _ _,0,by omega,bA5 _,rfl,rfl,rfl⟩ ?_
 ·rw[hC,k9];unfold B6;omega
 rintro m fr st ⟨k,rfl,hk,h9,rfl,rfl⟩
 by_cases hf:k<L.length
 case neg=>
  have:k=L.length:=by omega
  subst this
  rw[h9,dJ6,EU]
  simp (disch:=try exact z0z) only[WA,simprocAttr,LR]
  all_goals try omega
  exact d7 rfl h0 rfl
 have hb:=qQ L k hf
 have h1:=cS1 w n L[k]! (hK.at hf)
 rw[aF7 hf,EU] at h9
 generalize L[k]! =x at*
 cases hx:S3 x with
 |true=>
  rw[hx] at h1
  rw[aO9 hx] at h9
  unfold eG at hb h1
  simp (disch:=try exact z0z) only[WA,simprocAttr,LR,hb]
  all_goals try omega
  refine cF hC h1 ?_
  simp (disch:=try exact z0z) only[WA,simprocAttr]
  exact ⟨L.length - (k+1),_,_,by omega,.refl _ _,k+1,rfl,by omega,h9,rfl,rfl⟩
 |false=>
  rw[hx] at h1
  rw[aQ4 (by rw[hx];exact Bool.false_ne_true)] at h9
  rw[h9]
  unfold eG at hb h1
  simp (disch:=try exact z0z) only[WA,simprocAttr,LR,hb]
  all_goals try omega
  refine cF hC h1 ?_
  simp (disch:=try exact z0z) only[WA,simprocAttr]
  exact d7 rfl h0 rfl
theorem bG4 (s:Nat) (L:List Ev) (hL:L.length<=140737488351232) (hK:KE L):m0 (EN w (n+7)) 35 [eS s L] (iN (xA L)) ⟨[],0,0⟩:=by
 have hg:=bG5 w n s L hL hK
 obtain ⟨b1,b2⟩:=PT (p:=S3) L 0
 generalize EU S3 L 0=r at*
 have hd:m0 (EN w (n+6)) 83 [eS s L,cS3] (.sc (.bool (!(L.all S3)))) ⟨[],0,0⟩:=by
  refine vF rfl fun C hC h0=>?_
  cases ha:L.all S3 with
  |true=>
   have:=b1 ha
   subst this
   simp (disch:=try exact z0z) only[WA,simprocAttr,c83]
   refine cF hC hg ?_
   simp (disch:=try exact z0z) only[WA,simprocAttr]
   exact d7 rfl h0 rfl
  |false=>
   have:=b2 ha
   simp (disch:=try exact z0z) only[WA,simprocAttr,c83]
   refine cF hC hg ?_
   simp (disch:=try exact z0z) only[WA,simprocAttr]
   all_goals try omega
   exact d7 rfl h0 rfl
 unfold xA
 refine vF rfl fun C hC h0=>?_
 by_cases h2:2000<L.length
 ·rw[aO9 h2]
  simp (disch:=try exact z0z) only[WA,simprocAttr,c35]
  all_goals try omega
  exact d7 rfl h0 rfl
 rw[aQ4 h2]
 cases ha:L.all S3 with
 |true=>
  rw[aO9 rfl]
  rw[ha] at hd
  simp (disch:=try exact z0z) only[WA,simprocAttr,c35]
  all_goals try omega
  refine cF hC hd ?_
  simp (disch:=try exact z0z) only[WA,simprocAttr]
  exact d7 rfl h0 rfl
 |false=>
  rw[aQ4 (fun h=>by cases h)]
  rw[ha] at hd
  simp (disch:=try exact z0z) only[WA,simprocAttr,c35]
  all_goals try omega
  refine cF hC hd ?_
  simp (disch:=try exact z0z) only[WA,simprocAttr]
  exact d7 rfl h0 rfl
end
end Go.Proofs.YtgohenjcanfolaaGreatDoor
namespace Go.Proofs.YtgohenjcanfolaaGreatDoor
open Go Go.Itp
set_option maxRecDepth 100000
set_option maxHeartbeats 1000000
set_option linter.unusedSimpArgs false
set_option linter.unusedVariables false
section
variable (w:World) (n:Nat)
theorem bR2 (x:Ev) (hk:x.kind<256):m0 (EN w (n+3)) 57 [eG x] (.sc (.bool (S3 x))) ⟨[],0,0⟩:=by
 have hi:=VE w n x.ins
 have hz:=bH1 false x.ins
 obtain ⟨k,i,c⟩:=x
 simp only at hk hi hz
 unfold L2 at hi
 rcases RJ k i c with ⟨rfl,rfl,he⟩|⟨rfl,hc,he⟩|⟨h2,hq,he⟩|⟨h2,hq,hc,he⟩|⟨h2,hq,hc,he⟩|⟨h2,hq,⟨c1,c2⟩,he⟩|⟨⟨g1,g2,g3⟩,he⟩
 all_goals rw[he]
 ·clear hz
  cases hv:eJ i
  all_goals
   rw[hv] at hi
   simp only[if_true,cS5,if_false] at hi
   refine vF rfl fun C hC h0=>?_
   unfold eG
   repeat' (first|(simp (disch:=try exact z0z) only[WA,simprocAttr,c57]))
   refine cF hC hi ?_
   repeat' (first|(simp (disch:=try exact z0z) only[WA,simprocAttr]))
   exact d7 rfl h0 rfl
 ·refine vF rfl fun C hC h0=>?_
  unfold eG
  simp (disch:=try exact z0z) only[WA,simprocAttr,c57,hc]
  exact d7 rfl h0 rfl
 all_goals try rw[hq] at hz
 all_goals try (rcases h2 with rfl|rfl)
 all_goals try have e1:((k:Nat):Int) ≠ 1:=by omega
 all_goals try have e2:((k:Nat):Int) ≠ 2:=by omega
 all_goals try have e3:((k:Nat):Int) ≠ 3:=by omega
 all_goals
  refine vF rfl fun C hC h0=>?_
  unfold eG
  repeat' (first|(simp (disch:=try exact z0z) only[WA,simprocAttr,c57,hz]))
  all_goals try omega
  exact d7 rfl h0 rfl
theorem aV7 (s:Nat) (L:List Ev) (hL:L.length<=140737488351232) (hK:KE L):m0 (EN w (n+4)) 21 [eS s L] (iN (xA L)) ⟨[],0,0⟩:=by
 have h8:=iU L
 refine vF rfl fun C hC h0=>?_
 unfold xA
 by_cases h2:2000<L.length
 ·rw[aO9 h2]
  simp (disch:=try exact z0z) only[WA,simprocAttr,c21]
  all_goals try omega
  exact d7 rfl h0 rfl
 rw[aQ4 h2]
 simp (disch:=try exact z0z) only[WA,simprocAttr,c21]
 all_goals try omega
 refine r5 (fun m fr st=>∃ (k:Nat),m=L.length - k/\k<=L.length/\L.all S3=(L.drop k).all S3/\fr= [(0,eS s L),(3,iN k)]/\st=⟨[],0,0⟩) L.length ?_ ⟨_,_,.refl _ _,0,by omega,bA5 _,rfl,rfl,rfl⟩ ?_
 ·rw[hC,k9];unfold B6;omega
 rintro m fr st ⟨k,rfl,hk,h4,rfl,rfl⟩
 by_cases h6:k<L.length
 case neg=>
  have:k=L.length:=by omega
  subst this
  rw[h4,dJ6,List.all_nil,aO9 rfl]
  simp (disch:=try exact z0z) only[WA,simprocAttr,aE6]
  all_goals try omega
  exact d7 rfl h0 rfl
 have h5:=qQ L k h6
 have h1:=bR2 w n L[k]! (hK.at h6)
 rw[aF7 h6,dD3] at h4
 generalize L[k]! =x at*
 cases hx:S3 x with
 |true=>
  rw[hx] at h1
  rw[hx,dE6] at h4
  unfold eG at h5 h1
  simp (disch:=try exact z0z) only[WA,simprocAttr,aE6,h5]
  all_goals try omega
  refine cF hC h1 ?_
  simp (disch:=try exact z0z) only[WA,simprocAttr]
  exact ⟨L.length - (k+1),_,_,by omega,.refl _ _,k+1,rfl,by omega,h4,rfl,rfl⟩
 |false=>
  rw[hx] at h1
  rw[hx,Bool.false_and] at h4
  rw[h4,aQ4 (fun h=>by cases h)]
  unfold eG at h5 h1
  simp (disch:=try exact z0z) only[WA,simprocAttr,aE6,h5]
  all_goals try omega
  refine cF hC h1 ?_
  simp (disch:=try exact z0z) only[WA,simprocAttr]
  exact d7 rfl h0 rfl
theorem cA6 (s:Nat) (L:List Ev) (hL:L.length<=140737488351232):m0 (EN w (n+1)) 10 [eS s L] (.sc (.bool (decide (200<L.length/\L.length<=2000\/2100<L.length)))) ⟨[],0,0⟩:=by
 refine vF rfl fun C hC h0=>?_
 by_cases h1:200<L.length
 ·by_cases h2:L.length<=2000
  ·rw[dA1 (.inl ⟨h1,h2⟩)]
   simp (disch:=try exact z0z) only[WA,simprocAttr,c10]
   all_goals try omega
   exact d7 rfl h0 rfl
  ·by_cases h3:2100<L.length
   ·rw[dA1 (.inr h3)]
    simp (disch:=try exact z0z) only[WA,simprocAttr,c10]
    all_goals try omega
    exact d7 rfl h0 rfl
   ·rw[dA7 (by omega)]
    simp (disch:=try exact z0z) only[WA,simprocAttr,c10]
    all_goals try omega
    exact d7 rfl h0 rfl
 ·rw[dA7 (by omega)]
  simp (disch:=try exact z0z) only[WA,simprocAttr,c10]
  all_goals try omega
  exact d7 rfl h0 rfl
theorem cA9 (s t:Nat) (L:List Ev) (hL:L.length<=140737488351232):m0 (EN w (n+1)) 17 [eS s L,eS t L] (.sc (.bool true)) ⟨[],0,0⟩:=by
 have h8:=iU L
 refine vF rfl fun C hC h0=>?_
 have h9:C.E.rounds=B6:=by rw[hC,k9]
 simp (disch:=try exact z0z) only[WA,simprocAttr,c17]
 all_goals try omega
 refine r5 (fun m fr st=>∃ (k:Nat),m=L.length - k/\k<=L.length/\fr= [(0,eS s L),(1,eS t L),(5,iN k)]/\st=⟨[],0,0⟩) L.length ?_ ⟨_,_,.refl _ _,0,by omega,bA5 _,rfl,rfl⟩ ?_
 ·rw[h9];unfold B6;omega
 rintro m fr st ⟨k,rfl,hk,rfl,rfl⟩
 by_cases h6:k<L.length
 case neg=>
  simp (disch:=try exact z0z) only[WA,simprocAttr,bD3]
  all_goals try omega
  exact d7 rfl h0 rfl
 have h5:=qQ L k h6
 have h7:=bG8 true L[k]! L[k]!
 rw[dA1 rfl] at h7
 simp (disch:=try exact z0z) only[WA,simprocAttr,bD3,h5,↓h7]
 all_goals try omega
 exact ⟨L.length - (k+1),_,_,by omega,.refl _ _,k+1,rfl,by omega,rfl,rfl⟩
end
theorem FL {L:List Ev} {k:Nat} (hk:k<L.length) (h:L.all S3=true):S3 L[k]! =true/\(L.take k).all S3=true:=by
 rw[bB3] at h
 refine ⟨h _ (by rw[bA7 _ k hk];exact cN3 hk),?_⟩
 rw[bB3]
 exact fun x hx=>h x (dM0 hx)
section
variable (w:World) (n:Nat)
theorem kR (k:Nat):m0 (EN w (n+1)) 41 [.sc (.int .u8 k)] (r7 (if k=2 then pV else wH)) ⟨[],0,0⟩:=by
 refine vF rfl fun C hC h0=>?_
 by_cases h:k=2
 ·subst h
  simp (disch:=try exact z0z) only[WA,simprocAttr,c41]
  exact d7 rfl h0 rfl
 ·rw[aQ4 h]
  have h':((k:Nat):Int) ≠ 2:=by omega
  simp (disch:=try exact z0z) only[WA,simprocAttr,c41]
  exact d7 rfl h0 rfl
theorem wS (x:Ev) (hx:evP x):m0 (EN w (n+5)) 47 [eG x] (r7 (tL x)) ⟨[],0,0⟩:=by
 obtain ⟨k,i,c⟩:=x
 refine vF rfl fun C hC h0=>?_
 rcases hx with ⟨h1,h2,h3⟩|⟨h1,h2,h3,h4⟩
 ·simp only at h1 h2 h3
  subst h1
  have hi:=LC w n i h3
  have e:tL ⟨1,i,c⟩=r8 i:=rfl
  rw[e]
  generalize r8 i=T at*
  unfold L2 at hi
  unfold eG
  simp (disch:=try exact z0z) only[WA,simprocAttr,c47]
  refine cF hC hi ?_
  repeat' (first|(simp (disch:=try exact z0z) only[WA,simprocAttr])|apply j8|((first|apply n7|apply m9|apply l8|apply n8|apply n6|apply l9)<;>intro _))
  exact d7 rfl h0 rfl
 ·simp only at h1 h2 h3 h4
  have hd:=NV w (n+2) c (by omega) (by omega)
  have hl:=U5 (z:=c) (by omega) (by omega)
  have c1:=N8 pV (Lib.itoa c) (by unfold pV;simp;omega)
  have c2:=N8 wH (Lib.itoa c) (by unfold wH;simp;omega)
  rcases h1 with rfl|rfl
  ·have e:tL ⟨2,i,c⟩=pV++Lib.itoa c:=rfl
   rw[e]
   unfold pV at*
   generalize Lib.itoa c=T at*
   unfold eG
   simp (disch:=try exact z0z) only[WA,simprocAttr,c47]
   refine cF hC hd ?_
   simp (disch:=try exact z0z) only[WA,simprocAttr,c1]
   exact d7 rfl h0 rfl
  ·have e:tL ⟨3,i,c⟩=wH++Lib.itoa c:=rfl
   rw[e]
   unfold wH at*
   generalize Lib.itoa c=T at*
   unfold eG
   simp (disch:=try exact z0z) only[WA,simprocAttr,c47]
   refine cF hC hd ?_
   simp (disch:=try exact z0z) only[WA,simprocAttr,c2]
   exact d7 rfl h0 rfl
theorem bQ9 (s:Nat) (L:List Ev) (hL:L.length<=140737488351232) (hK:KE L):m0 (EN w (n+6)) 14 [eS s L] (.tup [r7 (DJ L).1,iN (DJ L).2]) ⟨[],0,0⟩:=by
 have h5:=aV7 w (n+1) s L hL hK
 have ho:=iU L
 unfold DJ
 refine vF rfl fun C hC h0=>?_
 by_cases e1:xA L=0
 case neg=>
  rw[aQ4 e1]
  generalize xA L=E at*
  simp (disch:=try exact z0z) only[WA,simprocAttr,c14]
  refine cF hC h5 ?_
  simp (disch:=try exact z0z) only[WA,simprocAttr,e1]
  refine cF hC h5 ?_
  repeat' (first|(simp (disch:=try exact z0z) only[WA,simprocAttr])|apply j8|((first|apply n7|apply m9|apply l8|apply n8|apply n6|apply l9)<;>intro _))
  exact d7 rfl h0 rfl
 rw[aO9 e1]
 rw[e1] at h5
 obtain ⟨hq,h9⟩:L.length<=2000/\L.all S3=true:=by
  unfold xA at e1
  split at e1
  ·cases e1
  ·split at e1
   ·rename_i h1 h2;exact ⟨by omega,h2⟩
   ·cases e1
 have hr:=xQ h9
 simp (disch:=try exact z0z) only[WA,simprocAttr,c14]
 refine cF hC h5 ?_
 simp (disch:=try exact z0z) only[WA,simprocAttr]
 refine r5 (fun m fr st=>∃ (k:Nat),m=L.length - k/\k<=L.length/\fr= [(0,eS s L),(4,r7 (ML (L.take k))),(5,iN k)]/\st=⟨[],0,0⟩) L.length ?_ ⟨_,_,.refl _ _,0,by omega,bA5 _,rfl,rfl⟩ ?_
 ·rw[hC,k9];unfold B6;omega
 rintro m fr st ⟨k,rfl,hk,rfl,rfl⟩
 by_cases h6:k<L.length
 case neg=>
  have:k=L.length:=by omega
  subst this
  rw[dJ4]
  have ha:=B1 (ML L)
  generalize ML L=F at*
  by_cases hb:40000<F.length
  ·rw[aO9 hb]
   simp (disch:=try exact z0z) only[WA,simprocAttr,aE4,ha]
   all_goals try omega
   exact d7 rfl h0 rfl
  ·rw[aQ4 hb]
   simp (disch:=try exact z0z) only[WA,simprocAttr,aE4,ha]
   all_goals try omega
   exact d7 rfl h0 rfl
 obtain ⟨hx,hc⟩:=FL h6 h9
 have hs:=xQ hc
 have ht:(L.take k).length<=2000:=by rw[cV7];omega
 have h7:=qQ L k h6
 have h8:=RH L k h6
 have hg:=wS w n L[k]! (X8.1 hx)
 have he:=MM (X8.1 hx)
 generalize L[k]! =x at*
 generalize tL x=T at*
 generalize ML (L.take k)=F at*
 have c1:=N8 F T (by omega)
 have c2:=N8 (F++T) [10] (by simp;omega)
 rw[bL9,<- h8] at c2
 unfold eG at h7 hg
 simp (disch:=try exact z0z) only[WA,simprocAttr,aE4,h7]
 all_goals try omega
 refine cF hC hg ?_
 simp (disch:=try exact z0z) only[WA,simprocAttr,c1,c2]
 exact ⟨L.length - (k+1),_,_,by omega,.refl _ _,k+1,rfl,by omega,rfl,rfl⟩
theorem cB0 (s:Nat) (L:List Ev) (hL:L.length<=140737488351232) (hK:KE L):m0 (EN w (n+8)) 13 [eS s L] (.tup [r7 (DJ L).1,iN (DJ L).2]) ⟨[],0,0⟩:=by
 have h5:=bG4 w n s L hL hK
 have ho:=iU L
 have nb:∀ a b:Nat,Nat.beq a b=false->a ≠ b:=fun a b=>Nat.ne_of_beq_eq_false
 unfold DJ
 refine vF rfl fun C hC h0=>?_
 by_cases e1:xA L=0
 case neg=>
  rw[aQ4 e1]
  generalize xA L=E at*
  simp (disch:=try exact z0z) only[WA,simprocAttr,c13]
  refine cF hC h5 ?_
  simp (disch:=try exact z0z) only[WA,simprocAttr,e1]
  exact d7 rfl h0 rfl
 rw[aO9 e1]
 rw[e1] at h5
 obtain ⟨hq,h9⟩:L.length<=2000/\L.all S3=true:=by
  unfold xA at e1
  split at e1
  ·cases e1
  ·split at e1
   ·rename_i h1 h2;exact ⟨by omega,h2⟩
   ·cases e1
 have hr:=xQ h9
 simp (disch:=try exact z0z) only[WA,simprocAttr,c13]
 refine cF hC h5 ?_
 simp (disch:=try exact z0z) only[WA,simprocAttr]
 refine r5 (fun m fr st=>∃ (k:Nat) (p:V),m=L.length - k/\k<=L.length/\aO1 0 p/\fr= [(5,.ptr 0 0),(14,eS s L),(15,iN L.length),(16,iN k)]/\
  st=⟨[(1,.gro 5 1 false (gR ⟨(ML (L.take k)).toArray⟩)),(0,.box 99 1 [p,.gr 2 1 (ML (L.take k)).length])],2,0⟩) L.length ?_ ⟨_,_,OV (l:= [.sc (.pointer none),.sc (.slice none 0 0)]) 0 99 1 1 5 1 rfl rfl (Nat.ne_of_beq_eq_false rfl),0,.sc (.pointer none),by omega,bA5 _,.inl rfl,rfl,rfl⟩ ?_
 ·rw[hC,k9];unfold B6;omega
 rintro m fr st ⟨k,p,rfl,hk,hp,rfl,rfl⟩
 by_cases h6:k<L.length
 case neg=>
  have:k=L.length:=by omega
  subst this
  rw[dJ4]
  generalize ML L=F at*
  have ha:=B1 F
  have hh:=fun (st:n9) (h:j7 st.own 0=some (.box 99 1 [p,.gr 2 1 F.length]))=>cP3 w (n+6) st 0 1 1 F.length p h (by omega)
  by_cases hb:40000<F.length
  ·rw[aO9 hb]
   simp (disch:=try exact z0z) only[WA,simprocAttr,QA]
   refine m8 (by rw[hC];refine hh _ ?_;rfl) ?_
   simp (disch:=try exact z0z) only[WA,simprocAttr]
   all_goals try omega
   exact d7 rfl h0 rfl
  ·rw[aQ4 hb]
   simp (disch:=try exact z0z) only[WA,simprocAttr,QA]
   refine m8 (by rw[hC];refine hh _ ?_;rfl) ?_
   simp (disch:=try exact z0z) only[WA,simprocAttr]
   all_goals try omega
   refine bT3 w (n+6) hC 0 1 p ⟨F.toArray⟩ (by rw[ha];rfl) rfl (bA5 _) (bA5 _) (by omega) fun st' hu=>?_
   repeat' (first|(simp (disch:=try exact z0z) only[WA,simprocAttr])|apply j8|((first|apply n7|apply m9|apply l8|apply n8|apply n6|apply l9)<;>intro _))
   exact d7 rfl h0 hu
 obtain ⟨hx,hc⟩:=FL h6 h9
 have hs:=xQ hc
 have ht:(L.take k).length<=2000:=by rw[cV7];omega
 have h7:=qQ L k h6
 have h8:=RH L k h6
 have hP:=X8.1 hx
 have he:=MM hP
 generalize L[k]! =x at*
 obtain ⟨xk,xi,xc⟩:=x
 have hj:=kR w (n+6) xk
 have hv:0<=xc/\xc<=6:=by
  rcases hP with ⟨_,h2,_⟩|⟨_,_,h3,h4⟩<;>simp only at* <;>omega
 have hm:∀ st,E7 C.E 42 st [.sc (.int .i64 xc)] (r7 (Lib.itoa xc)):=fun st=>by rw[hC];exact ND w (n+6) st xc (by omega) (by omega)
 have hw:=U5 (z:=xc) (by omega) (by omega)
 have hy:(if xk=2 then pV else wH).length<=6:=by split<;>simp[pV,wH]
 by_cases hn:xk=1
 ·subst hn
  have hI:K5 xi:=by
   rcases hP with ⟨_,_,h3⟩|⟨h3,_⟩
   ·exact h3
   ·simp only at h3;omega
  have hf:=bZ6 w (n+3) xi
  have el:IJ xi=(r8 xi,0):=by unfold IJ;rw[aO9 (K4.2 hI)]
  rw[el] at hf
  have eT:tL ⟨1,xi,xc⟩=r8 xi:=rfl
  rw[eT] at h8 he
  generalize (if (1:Nat)=2 then pV else wH)=wd at*
  generalize Lib.itoa xc=ic at*
  generalize r8 xi=T at*
  generalize ML (L.take k)=F at*
  obtain ⟨xo,xr,xb,xp,xt,xcc,xr2⟩:=xi
  unfold L2 at hf
  unfold eG at h7
  simp (disch:=try exact z0z) only[WA,simprocAttr,QA,h7]
  all_goals try omega
  refine O7 (by rw[hC];exact hj.flat rfl rfl) ?_
  simp (disch:=try exact z0z) only[WA,simprocAttr]
  refine m8 (hm _) ?_
  simp (disch:=try exact z0z) only[WA,simprocAttr,N8]
  refine cF hC hf ?_
  simp (disch:=try exact z0z) only[WA,simprocAttr,N8]
  refine bW9 w (n+4) hC 0 1 p F (T++ [10]) rfl rfl hp (bA5 _) (bA5 _) (by decide) (nb _ _ rfl) (by simp;omega) ?_
  simp (disch:=try exact z0z) only[WA,simprocAttr]
  refine ⟨L.length - (k+1),_,_,by omega,o9 [(3,1),(0,0)] 2 h0 rfl rfl rfl rfl,k+1,.ptr 0 0,rfl,by omega,.inr rfl,rfl,?_⟩
  rw[h8]
  simp only[bA4]
  rfl
 ·have eT:tL ⟨xk,xi,xc⟩=(if xk=2 then pV else wH)++Lib.itoa xc:=aQ4 hn
  rw[eT] at h8 he
  have hz:((xk:Nat):Int) ≠ 1:=by omega
  generalize (if xk=2 then pV else wH)=wd at*
  generalize Lib.itoa xc=ic at*
  generalize ML (L.take k)=F at*
  obtain ⟨xo,xr,xb,xp,xt,xcc,xr2⟩:=xi
  unfold eG at h7
  simp (disch:=try exact z0z) only[WA,simprocAttr,QA,h7]
  all_goals try omega
  refine O7 (by rw[hC];exact hj.flat rfl rfl) ?_
  simp (disch:=try exact z0z) only[WA,simprocAttr]
  refine m8 (hm _) ?_
  simp (disch:=try exact z0z) only[WA,simprocAttr,N8]
  refine bW9 w (n+4) hC 0 1 p F (wd++ic++ [10]) rfl rfl hp (bA5 _) (bA5 _) (by decide) (nb _ _ rfl) (by simp;omega) ?_
  simp (disch:=try exact z0z) only[WA,simprocAttr]
  refine ⟨L.length - (k+1),_,_,by omega,o9 [(3,1),(0,0)] 2 h0 rfl rfl rfl rfl,k+1,.ptr 0 0,rfl,by omega,.inr rfl,rfl,?_⟩
  rw[h8]
  simp only[bA4]
  rfl
end
theorem uU {old:Nat->Nat->Option Value} {f:D0} {st:n9} (a x:Operand) (h:Option (List Nat)):V7 old f st (.store 9 a x) h=iO st 9 (s5 f a) (s5 f x):=KM 9 rfl a x h
theorem dG0 (a0 a1 a2 a3 a4 a5 a6 a7 a8 b1 b2 b3 b4 b5 b6 b7:V):NU [a0,a1,a2,a3,a4,a5,a6,a7,a8] 1 [b1,b2,b3,b4,b5,b6,b7]= [a0,b1,b2,b3,b4,b5,b6,b7,a8]:=(rfl)
abbrev evz:Itp.Obj:= .box 56 1 [.sc (.int .u8 0),.sc (.int .u8 0),.sc (.bool false),.sc (.int .u8 0),.sc (.int .i64 0),.sc (.int .i64 0),.sc (.int .i64 0),.sc (.int .i64 0),.sc (.int .i64 0)]
theorem CJ (nx t:Nat) (a b:Value):T8 nx t 1 2 [.int .u8 0] [(0,1,.sc a),(1,1,.sc b)]=some (.ref nx 0 2 2,some (.row t 1 false false [.sc a,.sc b]),[]):=rfl
def RdE (r:Option Ev) (v:V):Prop:=∃ x b,v= .tup [eG x,.sc (.bool b)]/\(∀ y,r=some y->b=true/\x=y)/\(r=none->b=false)
section
variable (w:World) (n:Nat)
theorem HB (h4:(X1 Tryz.prog w "strconv.ErrSyntax").isSome=true) (h5:(X1 Tryz.prog w "strconv.ErrRange").isSome=true) (s:List UInt8) (hs:s.length<=1000000) (k i0:Nat) (hk:k=2/\i0=0\/k=3/\i0=1) (hb:k=3->F6 pV s=none) (r:List UInt8) (hr:F6 (if k=2 then pV else wH) s=some r):
  ∃ v,RdE (rL k r) v/\m0 (EN w (n+7)) 50 [r7 s] v ⟨[],0,0⟩:=by
 have w2:=kR w (n+5) 2
 have p2:=fG w (n+3) s pV hs
 have wk:=kR w (n+5) k
 have pk:=fG w (n+3) s (if k=2 then pV else wH) hs
 rw[aO9 rfl] at w2
 rw[hr] at pk
 have ht:r.length<=1000000:=by
  have:=tB hr
  rw[this.2,dC7];omega
 have ha:C0 [.sc (.int .u8 2),.sc (.int .u8 3)] i0 none=some (.sc (.int .u8 k)):=by rcases hk with ⟨rfl,rfl⟩|⟨rfl,rfl⟩<;>rfl
 have hv:i0<2:=by omega
 generalize (if k=2 then pV else wH)=pf at*
 cases hu:FC r with
 |none=>
  obtain ⟨z,cs,sp⟩:=bB8 w (n+5) ⟨r.toArray⟩ (by rw[B1];omega) h4 h5 (IQ hu)
  refine ⟨.tup [eG ⟨k,Q7,z⟩,.sc (.bool false)],⟨_,_,rfl,fun y h=>by (unfold rL at h;rw[hu] at h;cases h),fun _=>rfl⟩,?_⟩
  refine vF rfl fun C hC h0=>?_
  simp only[Option.getD_some,dL8] at pk
  unfold eG Q7
  simp (disch:=try exact z0z) only[WA,simprocAttr,c50,CJ]
  refine r5 (fun m fr st=>∃ i:Nat,m=2 - i/\i<=i0/\fr= [(0,r7 s),(2,.ptr 0 0),(13,.ref 1 0 2 2),(14,iN 2),(15,iN i)]/\st=⟨[(1,.row 5 1 false false [.sc (.int .u8 2),.sc (.int .u8 3)]),(0,evz)],2,0⟩) 2 ?_ ⟨_,_,.refl _ _,0,rfl,by omega,rfl,rfl⟩ ?_
  ·rw[hC,k9];unfold B6;omega
  rintro m fr st ⟨i,rfl,hi,rfl,rfl⟩
  by_cases hj:i<i0
  ·obtain ⟨rfl,rfl,rfl⟩:i=0/\i0=1/\k=3:=by omega
   rw[hb rfl] at p2
   simp only[Option.getD_none,Option.isSome_none] at p2
   unfold pV at*
   simp (disch:=try exact z0z) only[WA,simprocAttr,vM]
   refine cF hC w2 ?_
   simp (disch:=try exact z0z) only[WA,simprocAttr]
   refine cF hC p2 ?_
   simp (disch:=try exact z0z) only[WA,simprocAttr]
   exact ⟨1,_,_,by omega,.refl _ _,1,rfl,by omega,rfl,rfl⟩
  have h6:i=i0:=by omega
  subst h6
  simp (disch:=try exact z0z) only[WA,simprocAttr,vM,ha]
  all_goals try omega
  refine cF hC wk ?_
  repeat' (first|(simp (disch:=try exact z0z) only[WA,simprocAttr])|apply j8|((first|apply n7|apply m9|apply l8|apply n8|apply n6|apply l9)<;>intro _))
  refine cF hC pk ?_
  simp (disch:=try exact z0z) only[WA,simprocAttr]
  refine bE (by rw[hC];exact sp) rfl rfl rfl ?_
  repeat' (first|(simp (disch:=try exact z0z) only[WA,simprocAttr,pX,wT,shO,mD,S5,fA,bH0])|apply j8)
  refine AE rfl ?_
  simp (disch:=try exact z0z) only[WA,simprocAttr]
  refine AE rfl ?_
  simp (disch:=try exact z0z) only[WA,simprocAttr,uU,iP,MC]
  exact d7 rfl h0 rfl
 |some u=>
  have hd:=aL1 hu
  have hw:=Lib.atoiAll_bounds hd
  have hl:=bC0 w (n+5) ⟨[],0,0⟩ ⟨r.toArray⟩ u (by rw[B1];omega) hd
  have hn:=fun st=>ND w (n+5) st u (by omega) (by omega)
  have h7:=RK w (n+3) ⟨k,Q7,u⟩ (by simp only;omega)
  have ho:∃ b,(S3 ⟨k,Q7,u⟩=b)/\(Lib.itoa u=r->((∀ y,rL k r=some y->b=true/\⟨k,Q7,u⟩=y)/\(rL k r=none->b=false))):=by
   refine ⟨_,rfl,fun hq=>?_⟩
   have h8:rL k r=if Lib.itoa u=r/\1<=u/\u<=6 then some ⟨k,Q7,u⟩ else none:=by unfold rL;rw[hu]
   rw[h8]
   by_cases hc:1<=u/\u<=6
   ·rw[aO9 ⟨hq,hc⟩]
    exact ⟨fun y h=>⟨X8.2 (.inr ⟨by simp only;omega,rfl,hc⟩),(by cases h;rfl)⟩,fun h=>(by cases h)⟩
   ·rw[aQ4 (fun h=>hc h.2)]
    refine ⟨fun y h=>(by cases h),fun _=>Bool.eq_false_iff.2 fun h=>?_⟩
    rcases X8.1 h with ⟨h1,_⟩|⟨_,_,h2,h3⟩
    ·simp only at h1;omega
    ·exact hc ⟨h2,h3⟩
  obtain ⟨b,hp,hf⟩:=ho
  rw[hp] at h7
  simp only[eG,Q7] at h7
  have go:∀ q:Bool,decide (Lib.itoa u=r)=q->m0 (EN w (n+7)) 50 [r7 s] (.tup [eG ⟨k,Q7,u⟩,.sc (.bool (q && b))]) ⟨[],0,0⟩:=by
   intro q hq
   have hg:decide ((⟨(Lib.itoa u).toArray⟩:ByteArray)=⟨r.toArray⟩)=q:=by rw[<- hq];congr 1;exact T9 _ _
   refine vF rfl fun C hC h0=>?_
   simp only[Option.getD_some,dL8] at pk
   generalize Lib.itoa u=iu at*
   unfold eG Q7 at*
   simp (disch:=try exact z0z) only[WA,simprocAttr,c50,CJ]
   refine r5 (fun m fr st=>∃ i:Nat,m=2 - i/\i<=i0/\fr= [(0,r7 s),(2,.ptr 0 0),(13,.ref 1 0 2 2),(14,iN 2),(15,iN i)]/\st=⟨[(1,.row 5 1 false false [.sc (.int .u8 2),.sc (.int .u8 3)]),(0,evz)],2,0⟩) 2 ?_ ⟨_,_,.refl _ _,0,rfl,by omega,rfl,rfl⟩ ?_
   ·rw[hC,k9];unfold B6;omega
   rintro m fr st ⟨i,rfl,hi,rfl,rfl⟩
   by_cases hj:i<i0
   ·obtain ⟨rfl,rfl,rfl⟩:i=0/\i0=1/\k=3:=by omega
    rw[hb rfl] at p2
    simp only[Option.getD_none,Option.isSome_none] at p2
    unfold pV at*
    simp (disch:=try exact z0z) only[WA,simprocAttr,vM]
    refine cF hC w2 ?_
    simp (disch:=try exact z0z) only[WA,simprocAttr]
    refine cF hC p2 ?_
    simp (disch:=try exact z0z) only[WA,simprocAttr]
    exact ⟨1,_,_,by omega,.refl _ _,1,rfl,by omega,rfl,rfl⟩
   have h6:i=i0:=by omega
   subst h6
   simp (disch:=try exact z0z) only[WA,simprocAttr,vM,ha]
   all_goals try omega
   refine cF hC wk ?_
   repeat' (first|(simp (disch:=try exact z0z) only[WA,simprocAttr])|apply j8|((first|apply n7|apply m9|apply l8|apply n8|apply n6|apply l9)<;>intro _))
   refine cF hC pk ?_
   simp (disch:=try exact z0z) only[WA,simprocAttr]
   refine cF hC (m0.ofO hl) ?_
   repeat' (first|(simp (disch:=try exact z0z) only[WA,simprocAttr,bG9])|apply j8)
   refine RY rfl (by rw[hC];exact hn _) rfl rfl rfl ?_
   cases q
   ·simp (disch:=try exact z0z) only[WA,simprocAttr,hg]
    refine AE rfl ?_
    simp (disch:=try exact z0z) only[WA,simprocAttr,uU,iP,MC]
    exact d7 rfl h0 rfl
   ·simp (disch:=try exact z0z) only[WA,simprocAttr,hg]
    refine RY rfl (by rw[hC];exact h7.flat rfl rfl) rfl rfl rfl ?_
    simp (disch:=try exact z0z) only[WA,simprocAttr,uU,iP,MC]
    exact d7 rfl h0 rfl
  by_cases hq:Lib.itoa u=r
  ·refine ⟨_,⟨_,_,rfl,fun y h=>?_,fun h=>?_⟩,go true (dA1 hq)⟩
   ·rw[dE6];exact (hf hq).1 y h
   ·rw[dE6];exact (hf hq).2 h
  ·have h8:rL k r=none:=by
    unfold rL
    rw[hu]
    exact aQ4 fun h=>hq h.1
   refine ⟨_,⟨_,_,rfl,fun y h=>?_,fun h=>rfl⟩,go false (dA7 hq)⟩
   rw[h8] at h;cases h
theorem RG (h4:(X1 Tryz.prog w "strconv.ErrSyntax").isSome=true) (h5:(X1 Tryz.prog w "strconv.ErrRange").isSome=true) (s:List UInt8) (hs:s.length<=1000000):∃ v,RdE (N9 s) v/\m0 (EN w (n+7)) 50 [r7 s] v ⟨[],0,0⟩:=by
 have w2:=kR w (n+5) 2
 have w3:=kR w (n+5) 3
 have p2:=fG w (n+3) s pV hs
 have p3:=fG w (n+3) s wH hs
 rw[aO9 rfl] at w2
 rw[aQ4 (by decide)] at w3
 unfold N9
 cases hb:F6 pV s with
 |some r=>exact HB w n h4 h5 s hs 2 0 (.inl ⟨rfl,rfl⟩) (fun h=>by cases h) r hb
 |none=>
  rw[hb] at p2
  cases hm:F6 wH s with
  |some r=>exact HB w n h4 h5 s hs 3 1 (.inr ⟨rfl,rfl⟩) (fun _=>hb) r hm
  |none=>
   rw[hm] at p3
   simp only
   have h9:=cV5 w n h4 h5 s hs
   have go:∀ (j:E5) (e:Int),VB (W3 s)= .tup [L2 j,.sc (.int .i64 e)]->m0 (EN w (n+7)) 50 [r7 s] (.tup [eG ⟨1,j,0⟩,.sc (.bool (decide (e=0)))]) ⟨[],0,0⟩:=by
    intro j e he
    rw[he] at h9
    refine vF rfl fun C hC h0=>?_
    simp only[Option.getD_none,Option.isSome_none] at p2 p3
    unfold pV at*
    unfold wH at*
    unfold L2 at h9
    unfold eG
    simp (disch:=try exact z0z) only[WA,simprocAttr,c50,CJ]
    refine r5 (fun m fr st=>∃ i:Nat,m=2 - i/\i<=2/\fr= [(0,r7 s),(2,.ptr 0 0),(13,.ref 1 0 2 2),(14,iN 2),(15,iN i)]/\st=⟨[(1,.row 5 1 false false [.sc (.int .u8 2),.sc (.int .u8 3)]),(0,evz)],2,0⟩) 2 ?_ ⟨_,_,.refl _ _,0,rfl,by omega,rfl,rfl⟩ ?_
    ·rw[hC,k9];unfold B6;omega
    rintro m fr st ⟨i,rfl,hi,rfl,rfl⟩
    rcases (by omega:i=0\/i=1\/i=2) with rfl|rfl|rfl
    ·simp (disch:=try exact z0z) only[WA,simprocAttr,vM]
     refine cF hC w2 ?_
     simp (disch:=try exact z0z) only[WA,simprocAttr]
     refine cF hC p2 ?_
     simp (disch:=try exact z0z) only[WA,simprocAttr]
     exact ⟨1,_,_,by omega,.refl _ _,1,rfl,by omega,rfl,rfl⟩
    ·simp (disch:=try exact z0z) only[WA,simprocAttr,vM]
     refine cF hC w3 ?_
     simp (disch:=try exact z0z) only[WA,simprocAttr]
     refine cF hC p3 ?_
     simp (disch:=try exact z0z) only[WA,simprocAttr]
     exact ⟨0,_,_,by omega,.refl _ _,2,rfl,by omega,rfl,rfl⟩
    ·simp (disch:=try exact z0z) only[WA,simprocAttr,vM]
     refine cF hC h9 ?_
     simp (disch:=try exact z0z) only[WA,simprocAttr,dG0]
     exact d7 rfl h0 rfl
   cases hh:W3 s with
   |none=>exact ⟨_,⟨_,_,rfl,fun y h=>(by cases h),fun _=>rfl⟩,go Q7 12 (by rw[hh];rfl)⟩
   |some i=>exact ⟨_,⟨_,_,rfl,fun y h=>⟨rfl,(by cases h;rfl)⟩,fun h=>(by cases h)⟩,go i 0 (by rw[hh];rfl)⟩
end
def rlV:Option Ev->V
 |some x=> .tup [eG x,.sc (.bool true)]
 |none=> .tup [eG ev0,.sc (.bool false)]
theorem dI4 (k:Nat) (h:k<=3):IntKind.u8.wrap ((k:Int)+1)=((k+1:Nat):Int):=by
 rcases (by omega:k=0\/k=1\/k=2\/k=3) with rfl|rfl|rfl|rfl<;>rfl
section
variable (w:World) (n:Nat)
theorem cE6 (s:List UInt8) (hs:s.length<=1000000):m0 (EN w (n+6)) 52 [r7 s] (rlV (N9 s)) ⟨[],0,0⟩:=by
 have h6:=cE8 w n s hs
 cases h7:W3 s with
 |some i=>
  have hl:N9 s=some ⟨1,i,0⟩:=by
   obtain ⟨h1,h2⟩:=CC h7
   exact uA.2 ⟨.inl ⟨rfl,rfl,h1⟩,h2⟩
  rw[hl]
  rw[h7] at h6
  refine vF rfl fun C hC h0=>?_
  unfold VB L2 at h6
  unfold rlV eG
  simp (disch:=try exact z0z) only[WA,simprocAttr,c52]
  refine cF hC h6 ?_
  simp (disch:=try exact z0z) only[WA,simprocAttr,dG0]
  exact d7 rfl h0 rfl
 |none=>
  rw[h7] at h6
  have hl:∀ x,N9 s=some x->(x.kind=2\/x.kind=3)/\x.ins=Q7/\(1<=x.car/\x.car<=6)/\tL x=s:=fun x hx=>by
   obtain ⟨h1,h2⟩:=uA.1 hx
   rcases h1 with ⟨e1,e2,e3⟩|⟨e1,e2,e3,e4⟩
   ·have:tL x=r8 x.ins:=by unfold tL;rw[aO9 e1]
    rw[this] at h2
    rw[<- h2,dO e3] at h7;cases h7
   ·exact ⟨e1,e2,⟨e3,e4⟩,h2⟩
  refine dX rfl rfl (fun _ _=>rfl) (cJ5 rfl) (jC w) (by unfold rlV;split<;>rfl) fun C hC h0=>?_
  have hb:C.E.rounds=B6:=by rw[hC,k9]
  unfold VB L2 at h6
  simp (disch:=try exact z0z) only[WA,simprocAttr,c52]
  refine cF hC h6 ?_
  simp (disch:=try exact z0z) only[WA,simprocAttr]
  refine r5 (fun m fr st=>∃ c:Nat,m=7 - c/\1<=c/\c<=7/\(∀ x,N9 s=some x->(c:Int)<=x.car)/\fr= [(0,r7 s),(2,.ptr 0 0),(6,iN c)]/\st=⟨[(0,evz)],1,0⟩) 6 ?_ ⟨_,_,o9 [(0,0)] 1 h0 rfl rfl rfl rfl,1,rfl,by omega,by omega,fun x hx=>(hl x hx).2.2.1.1,rfl,rfl⟩ ?_
  ·rw[hb];unfold B6;omega
  rintro m fr st ⟨c,rfl,hj,hc,hd,rfl,rfl⟩
  by_cases hm:c<=6
  case neg=>
   have hg:N9 s=none:=by
    cases h:N9 s with
    |none=>rfl
    |some x=>
     have h1:=hd x h
     have h2:=(hl x h).2.2.1
     omega
   rw[hg]
   unfold rlV eG ev0 Q7
   simp (disch:=try exact z0z) only[WA,simprocAttr,bD4]
   all_goals try omega
   exact d7 rfl h0 rfl
  simp (disch:=try exact z0z) only[WA,simprocAttr,bD4]
  all_goals try omega
  refine r5 (fun m fr st=>∃ k:Nat,m=4 - k/\2<=k/\k<=4/\(∀ x,N9 s=some x->x.car=c->k<=x.kind)/\fr= [(0,r7 s),(2,.ptr 0 0),(6,iN c),(7,.sc (.int .u8 k))]/\st=⟨[(0,evz)],1,0⟩) 2 ?_ ⟨_,_,.refl _ _,2,rfl,by omega,by omega,fun x hx _=>by have:=(hl x hx).1;omega,rfl,rfl⟩ ?_
  ·rw[hb];unfold B6;omega
  rintro m fr st ⟨k,rfl,hn,hk,he,rfl,rfl⟩
  by_cases hh:k<=3
  case neg=>
   have h8:∀ x,N9 s=some x->((c+1:Nat):Int)<=x.car:=fun x hx=>by
    have h1:=hd x hx
    by_cases e:x.car=c
    ·have h2:=he x hx e
     have h3:=(hl x hx).1
     omega
    ·omega
   simp (disch:=try exact z0z) only[WA,simprocAttr,aE7]
   all_goals try omega
   exact ⟨7 - (c+1),_,_,by omega,.refl _ _,c+1,rfl,by omega,by omega,h8,rfl,rfl⟩
  have h9:=wS w n ⟨k,Q7,c⟩ (.inr ⟨by simp only;omega,rfl,by simp only;omega,by simp only;omega⟩)
  have hf:=dI4 k hh
  simp only[eG,Q7] at h9
  by_cases hq:tL ⟨k,Q7,c⟩=s
  ·have hi:N9 s=some ⟨k,Q7,c⟩:=uA.2 ⟨.inr ⟨by simp only;omega,rfl,by simp only;omega,by simp only;omega⟩,hq⟩
   rw[hi]
   have ha:decide ((⟨(tL ⟨k,⟨0,false,0,0,0,0,0⟩,c⟩).toArray⟩:ByteArray)=⟨s.toArray⟩)=true:=dA1 (by rw[T9];exact hq)
   generalize tL ⟨k,⟨0,false,0,0,0,0,0⟩,c⟩=T at*
   unfold rlV eG Q7
   simp (disch:=try exact z0z) only[WA,simprocAttr,aE7]
   all_goals try omega
   refine cF hC h9 ?_
   simp (disch:=try exact z0z) only[WA,simprocAttr,ha]
   exact d7 rfl h0 rfl
  ·have ha:decide ((⟨(tL ⟨k,⟨0,false,0,0,0,0,0⟩,c⟩).toArray⟩:ByteArray)=⟨s.toArray⟩)=false:=dA7 (by rw[T9];exact hq)
   have h8:∀ x,N9 s=some x->x.car=c->k+1<=x.kind:=fun x hx e=>by
    have h2:=he x hx e
    obtain ⟨h3,h4,_,h5⟩:=hl x hx
    have:x.kind ≠ k:=fun e2=>hq (by rw[<- h5,<- e2,<- e,<- h4])
    omega
   generalize tL ⟨k,⟨0,false,0,0,0,0,0⟩,c⟩=T at*
   simp (disch:=try exact z0z) only[WA,simprocAttr,aE7,hf]
   all_goals try omega
   refine cF hC h9 ?_
   simp (disch:=try exact z0z) only[WA,simprocAttr,ha,hf]
   exact ⟨4 - (k+1),_,_,by omega,o9 [(0,0)] 1 h0 rfl rfl rfl rfl,k+1,rfl,by omega,by omega,h8,rfl,rfl⟩
end
set_option maxHeartbeats 2000000
theorem VH (nx t:Nat) (a b c d e f g h i:Value):T8 nx t 9 1 [.int .u8 0,.int .u8 0,.bool false,.int .u8 0,.int .i64 0,.int .i64 0,.int .i64 0,.int .i64 0,.int .i64 0] [(0,9,.agg [.sc a,.sc b,.sc c,.sc d,.sc e,.sc f,.sc g,.sc h,.sc i])]=some (.ref nx 0 1 1,some (.row t 9 false false [.sc a,.sc b,.sc c,.sc d,.sc e,.sc f,.sc g,.sc h,.sc i]),[]):=rfl
theorem WB {H:E9} {o t n:Nat} {z:Bool} {l:List D} (h:j7 H o=some (.gro t 9 z l)) (hl:l.length=n*9):D1 H (.gr 2 o n)=some (.sl 2 n l):=by
 simp only[D1,dS,h]
 rw[aO9 ⟨hl,by decide,by decide,by decide⟩]
 rfl
theorem IV:∀ (ls:List (List UInt8)) (acc:List Ev),0<ls.length->ls[ls.length - 1]! ≠ []->eW ls acc=none
 | [],_,h,_=>absurd h (dK8 _)
 | [l],acc,_,h=>UD l acc h
 |l::a::r,acc,_,h=>by
  cases hl:N9 l with
  |none=>exact nA (by simp) hl
  |some x=>rw[nB (by simp) hl];exact IV (a::r) _ (by simp) h
abbrev bO0 (p:List Ev × Int):V:= .tup [eS 3 p.1,iN p.2]
section
variable (w:World) (n:Nat)
theorem bG7 (hi:(X1 Tryz.prog w "strconv.ErrSyntax").isSome=true) (hj:(X1 Tryz.prog w "strconv.ErrRange").isSome=true) (s:List UInt8) (hs:s.length<=1000000):m0 (EN w (n+8)) 15 [r7 s] (bO0 (wO s)) ⟨[],0,0⟩:=by
 refine vG rfl aG fun C hC h0=>?_
 have h9:C.E.rounds=B6:=by rw[hC,k9]
 have h4:=B1 s
 have hm:=cA0 w (n+5) s 10 (by omega)
 have g5:=vP 10 s.length s (aQ5 _)
 unfold wO
 by_cases h1:40000<s.length
 ·rw[aO9 (.inl h1)]
  simp (disch:=try exact z0z) only[WA,simprocAttr,c15,h4]
  all_goals try omega
  exact E2 h0 rfl
 by_cases h2:2000<(v7 10 s).length - 1
 ·rw[aO9 (.inr h2)]
  simp (disch:=try exact z0z) only[WA,simprocAttr,c15,h4]
  all_goals try omega
  refine cF hC hm ?_
  simp (disch:=try exact z0z) only[WA,simprocAttr]
  all_goals try omega
  exact E2 h0 rfl
 rw[aQ4 (by omega)]
 simp (disch:=try exact z0z) only[WA,simprocAttr,c15,h4]
 all_goals try omega
 refine cF hC hm ?_
 simp (disch:=try exact z0z) only[WA,simprocAttr]
 all_goals try omega
 refine r5 (fun m fr st=>∃ (rest:List UInt8) (acc:List Ev),m=rest.length/\rest.length<=s.length/\acc.length+(v7 10 rest).length<=2001/\eW (v7 10 rest) acc=eW (v7 10 s) []/\A8 [0,4] fr= [(0,r7 rest),(4,.gr 2 0 acc.length)]/\st=⟨[(0,.gro 56 9 false (PA acc))],1,0⟩) s.length ?_ ⟨_,_,T1 4 56 9 rfl,s,[],rfl,aQ5 _,by simp;omega,rfl,rfl,rfl⟩ ?_
 ·rw[h9];unfold B6;omega
 rintro m fr st ⟨rest,acc,rfl,g6,ha,h7,hc,rfl⟩
 rw[hc]
 have hd:=iU acc
 by_cases he:rest= []
 ·subst he
  have hp:eW (v7 10 s) []=some acc:=by rw[<- h7];exact UC acc
  rw[hp]
  simp (disch:=try exact z0z) only[WA,simprocAttr,QB]
  all_goals try omega
  exact Y8 (WB rfl hd) rfl (.inl (by decide)) h0 rfl
 have h5:=aF4 w (n+2) rest 10 (by omega)
 have h8:(⟨rest.toArray⟩:ByteArray) ≠ ⟨#[]⟩:=fun e=>he (by have:=congrArg (fun b:ByteArray=>b.data.toList) e;simpa using this)
 rcases cY 10 rest with hf|⟨a,r,rfl,hf⟩
 ·rw[GM hf] at h5
  have hp:eW (v7 10 s) []=none:=by rw[<- h7,aR hf];exact UD rest acc he
  rw[hp]
  obtain ⟨_,⟨x,b,rfl,_,_⟩,h3⟩:=RG w n hi hj rest (by omega)
  obtain ⟨k,⟨jo,jr,jb,jp,jt,jc,jk⟩,c⟩:=x
  unfold eG at h3
  simp (disch:=try exact z0z) only[WA,simprocAttr,QB,h8]
  all_goals try omega
  refine cF hC h5 ?_
  simp (disch:=try exact z0z) only[WA,simprocAttr]
  refine cF hC h3 ?_
  simp (disch:=try exact z0z) only[WA,simprocAttr]
  all_goals try omega
  exact E2 h0 rfl
 ·rw[zG r hf] at h5
  rw[W9 r hf] at h7 ha
  have hn:=sJ 10 r
  rw[bK2] at ha
  have hx:(a++10::r).length=a.length+r.length+1:=by simp;omega
  obtain ⟨_,⟨x,b,rfl,hy,hz⟩,h3⟩:=RG w n hi hj a (by omega)
  cases h6:N9 a with
  |none=>
   have hb:=hz h6
   subst hb
   rw[nA hn h6] at h7
   rw[<- h7]
   obtain ⟨k,⟨jo,jr,jb,jp,jt,jc,jk⟩,c⟩:=x
   unfold eG at h3
   simp (disch:=try exact z0z) only[WA,simprocAttr,QB,h8]
   all_goals try omega
   refine cF hC h5 ?_
   simp (disch:=try exact z0z) only[WA,simprocAttr]
   refine cF hC h3 ?_
   simp (disch:=try exact z0z) only[WA,simprocAttr]
   all_goals try omega
   exact E2 h0 rfl
  |some j=>
   obtain ⟨rfl,rfl⟩:=hy j h6
   rw[nB hn h6] at h7
   have hg:=RI acc x
   obtain ⟨k,⟨jo,jr,jb,jp,jt,jc,jk⟩,c⟩:=x
   unfold eG at h3
   generalize PA acc=A at*
   simp (disch:=try exact z0z) only[WA,simprocAttr,QB,h8]
   all_goals try omega
   refine cF hC h5 ?_
   simp (disch:=try exact z0z) only[WA,simprocAttr]
   refine cF hC h3 ?_
   simp (disch:=try exact z0z) only[WA,simprocAttr,VH]
   all_goals try omega
   refine ⟨r.length,_,_,by omega,o9 [(3,0)] 1 h0 rfl rfl rfl rfl,r,acc++ [⟨k,⟨jo,jr,jb,jp,jt,jc,jk⟩,c⟩],rfl,by omega,by rw[bA4];simp;omega,h7,by rw[bA4];rfl,?_⟩
   rw[hg]
   rfl
theorem aX1 (s:List UInt8) (hs:s.length<=1000000):m0 (EN w (n+7)) 16 [r7 s] (bO0 (wO s)) ⟨[],0,0⟩:=by
 refine vG rfl aG fun C hC h0=>?_
 have h9:C.E.rounds=B6:=by rw[hC,k9]
 have h4:=B1 s
 have h5:m0 (EN w (n+6)) 51 [r7 s,.sc (.int .u8 10)] (xH 2 (v7 10 s)) ⟨[],0,0⟩:=bF2 w (n+5) s 10 hs
 obtain ⟨g7,g0⟩:=gZ (c:=10) s.length (s:=s) (aQ5 _)
 have ho:0<(v7 10 s).length:=dL2.2 (sJ 10 s)
 unfold wO
 generalize v7 10 s=ls at*
 have g8:(ls.map sD).length=ls.length:=by rw[cZ0]
 by_cases h1:40000<s.length
 ·rw[aO9 (.inl h1)]
  simp (disch:=try exact z0z) only[WA,simprocAttr,c16,h4]
  refine cN hC h5 ?_
  repeat' (first|(simp (disch:=try exact z0z) only[WA,simprocAttr,h4])|apply j8|((first|apply n7|apply m9|apply l8|apply n8|apply n6|apply l9)<;>intro _))
  all_goals try omega
  exact E2 h0 rfl
 by_cases h2:2000<ls.length - 1
 ·rw[aO9 (.inr h2)]
  simp (disch:=try exact z0z) only[WA,simprocAttr,c16,h4]
  refine cN hC h5 ?_
  simp (disch:=try exact z0z) only[WA,simprocAttr,h4]
  all_goals try omega
  exact E2 h0 rfl
 rw[aQ4 (by omega)]
 have hq:((ls.length:Int) - 1)=((ls.length - 1:Nat):Int):=by omega
 have hr:ls.length - 1<ls.length:=by omega
 have ht:=dD0 hr
 have g1:ls.drop (ls.length - 1+1)= []:=dJ8 (by omega)
 rw[<- bA7 ls _ hr,g1] at ht
 have g2:=fun acc=>IV ls acc ho
 generalize hX:ls[ls.length - 1]! =X at*
 have hu:ls[Int.toNat ((ls.length - 1:Nat):Int)]! =X:=by rw[cJ2];exact hX
 by_cases hh:X= []
 case neg=>
  rw[g2 [] hh]
  have h8:(⟨X.toArray⟩:ByteArray) ≠ ⟨#[]⟩:=fun e=>hh (by have:=congrArg (fun b:ByteArray=>b.data.toList) e;simpa using this)
  simp (disch:=try exact z0z) only[WA,simprocAttr,c16,h4]
  refine cN hC h5 ?_
  simp (disch:=try exact z0z) only[WA,simprocAttr,h4,hq,P3,hX,hu,h8]
  all_goals try omega
  exact E2 h0 rfl
 subst hh
 simp (disch:=try exact z0z) only[WA,simprocAttr,c16,h4]
 refine cN hC h5 ?_
 simp (disch:=try exact z0z) only[WA,simprocAttr,h4,hq,P3,hX,hu]
 all_goals try omega
 refine r5 (fun m fr st=>∃ (k:Nat) (acc:List Ev),m=ls.length - k/\k<ls.length/\acc.length=k/\eW (ls.drop k) acc=eW ls []/\A8 [4,5,6] fr= [(4,xH 2 ls),(5,.gr 2 0 acc.length),(6,iN k)]/\st=⟨[(0,.gro 56 9 false (PA acc))],1,0⟩) ls.length ?_ ⟨_,_,T1 5 56 9 rfl,0,[],by omega,ho,rfl,rfl,rfl,rfl⟩ ?_
 ·rw[h9];unfold B6;omega
 rintro m fr st ⟨k,acc,rfl,hk,ha,hp,hc,rfl⟩
 rw[hc]
 have hd:=iU acc
 by_cases g3:k+1<ls.length
 case neg=>
  have g4:k=ls.length - 1:=by omega
  rw[g4,ht,UC] at hp
  rw[<- hp]
  simp (disch:=try exact z0z) only[WA,simprocAttr,aE5]
  all_goals try omega
  exact Y8 (WB rfl hd) rfl (.inl (by decide)) h0 rfl
 have hv:=dD0 hk
 rw[<- bA7 ls k hk] at hv
 rw[hv] at hp
 have hw:ls.drop (k+1) ≠ []:=fun e=>by
  have:=List.drop_eq_nil_iff.1 e
  omega
 have hx:(ls[k]!).length<=s.length:=by
  rw[bA7 ls k hk]
  exact g0 _ (cN3 _)
 have h3:=cE6 w n ls[k]! (by omega)
 generalize hY:ls[k]! =Y at*
 cases h6:N9 Y with
 |none=>
  rw[h6] at h3
  rw[nA hw h6] at hp
  rw[<- hp]
  simp only[rlV,eG,ev0,Q7] at h3
  simp (disch:=try exact z0z) only[WA,simprocAttr,aE5,P3,hY]
  all_goals try omega
  refine cF hC h3 ?_
  simp (disch:=try exact z0z) only[WA,simprocAttr]
  all_goals try omega
  exact E2 h0 rfl
 |some x=>
  rw[h6] at h3
  rw[nB hw h6] at hp
  have hg:=RI acc x
  obtain ⟨kk,⟨jo,jr,jb,jp,jt,jc,jk⟩,c⟩:=x
  simp only[rlV,eG] at h3
  generalize PA acc=A at*
  simp (disch:=try exact z0z) only[WA,simprocAttr,aE5,P3,hY]
  all_goals try omega
  refine cF hC h3 ?_
  simp (disch:=try exact z0z) only[WA,simprocAttr,VH]
  all_goals try omega
  refine ⟨ls.length - (k+1),_,_,by omega,o9 [(3,0)] 1 h0 rfl rfl rfl rfl,k+1,acc++ [⟨kk,⟨jo,jr,jb,jp,jt,jc,jk⟩,c⟩],rfl,g3,by rw[bA4];simp;omega,hp,by rw[bA4];rfl,?_⟩
  rw[hg]
  rfl
end
set_option maxHeartbeats 4000000
theorem UB:∀ (ls:List (List UInt8)) (acc:List Ev) {M:List Ev},eW ls acc=some M->M.length<=acc.length+ls.length
 | [],acc,M,h=>by rw[eW] at h;cases h;simp
 | [l],acc,M,h=>by
  rw[eW] at h
  split at h
  ·cases h;simp
  ·cases h
 |l::a::r,acc,M,h=>by
  cases hl:N9 l with
  |none=>rw[nA (by simp) hl] at h;cases h
  |some x=>
   rw[nB (by simp) hl] at h
   have:=UB (a::r) _ h
   simp only[bA4,bK2,dA2] at this ⊢
   omega
theorem aV3 (s:List UInt8):(wO s).1.length<=s.length+1:=by
 unfold wO
 split
 ·simp
 ·split
  ·rename_i L h
   have h1:=UB _ _ h
   have h2:=(gZ (c:=10) s.length (s:=s) (aQ5 _)).1
   simp only[dA2] at h1
   simp only
   omega
  ·simp
theorem cO8 (w:World) (c:ChT) (h3:fB c.2) (p:Int) (L:List Ev) (h4:KE L) (s:List UInt8) (hc:c.2.length<=140737488351232) (hL:L.length<=140737488351232) (ha:s.length<=140737488351232) (h6:(X1 Tryz.prog w "strconv.ErrSyntax").isSome=true) (h7:(X1 Tryz.prog w "strconv.ErrRange").isSome=true)
  {C:C8} (hC:C.E=EN w 12) (h0:C.w0.nx=0):
  gC C c3.code [] (P4 0 [O2 3 1 c,iN p,eS 3 L,r7 s]) ⟨[],0,0⟩ (fC C c3.res (.sc (.bool true)) ⟨[],0,0⟩):=by
 obtain ⟨z,R⟩:=c
 simp only at h3 hc
 have hg:=aT1 w 10 3 1 z R hc h3
 have h8:=cA6 w 11 3 L hL
 have h5:=B1 s
 simp (disch:=try exact z0z) only[WA,simprocAttr,c3]
 refine cF hC hg ?_
 cases hb:ZP R with
 |true=>
  simp (disch:=try exact z0z) only[WA,simprocAttr]
  exact d7 rfl h0 rfl
 |false=>
 simp (disch:=try exact z0z) only[WA,simprocAttr]
 refine cF hC h8 ?_
 by_cases g1:200<L.length/\L.length<=2000\/2100<L.length
 ·rw[dA1 g1]
  simp (disch:=try exact z0z) only[WA,simprocAttr]
  exact d7 rfl h0 rfl
 rw[dA7 g1]
 by_cases g2:3000<s.length
 ·simp (disch:=try exact z0z) only[WA,simprocAttr,h5]
  all_goals try omega
  exact d7 rfl h0 rfl
 have q1:=cJ0 w 0 1 (.inl rfl) z R hc h3 p
 have q2:=bR4 w 5 1 z R hc h3 p
 have q3:=cB0 w 4 3 L hL h4
 have q4:=bQ9 w 6 3 L hL h4
 have q5:=bG7 w 4 h6 h7 s (by omega)
 have q6:=aX1 w 5 s (by omega)
 have h9:(wO s).1.length<=140737488351232:=by have:=aV3 s;omega
 generalize EK (z,R) p=wf at*
 generalize DJ L=tf at*
 generalize hd:wO s=pf at*
 obtain ⟨x1,x2,x3⟩:=wf
 obtain ⟨t1,t2⟩:=tf
 obtain ⟨M,e⟩:=pf
 simp only[whV,bO0] at q1 q2 q3 q4 q5 q6
 have q7:=cA9 w 11 3 3 M h9
 simp (disch:=try exact z0z) only[WA,simprocAttr,h5]
 all_goals try omega
 refine cF hC q1 ?_
 simp (disch:=try exact z0z) only[WA,simprocAttr]
 refine cF hC q2 ?_
 simp (disch:=try exact z0z) only[WA,simprocAttr]
 refine cF hC q3 ?_
 simp (disch:=try exact z0z) only[WA,simprocAttr]
 refine cF hC q4 ?_
 simp (disch:=try exact z0z) only[WA,simprocAttr]
 refine cN hC q5 ?_
 simp (disch:=try exact z0z) only[WA,simprocAttr]
 refine cN hC q6 ?_
 simp (disch:=try exact z0z) only[WA,simprocAttr]
 refine cF hC q7 ?_
 simp (disch:=try exact z0z) only[WA,simprocAttr]
 exact d7 rfl h0 rfl
end Go.Proofs.YtgohenjcanfolaaGreatDoor
