/- What is proved: the law KnitlogCharts returns true for every input.
   Texts: J45a, J45b, J45c, J44w, J44x, J45d, J45e, J45f, J45g.
-/
import Derived.Test.YtgohenjcanfolaaGreatDoorPart5
namespace Go.Proofs.YtgohenjcanfolaaGreatDoor
open Go Go.Itp
set_option maxRecDepth 100000
set_option maxHeartbeats 1000000
set_option linter.unusedSimpArgs false
set_option linter.unusedVariables false
def lK (x:o8):o8:=if x.kind=8 then ⟨8,false,0,0⟩ else ⟨1,x.purl,0,0⟩
def QB (r:Bool × List o8):Bool × List o8:=(false,(u6 r).map lK)
theorem NU (r:Bool × List o8):u6 (QB r)=(u6 r).map lK:=rfl
theorem CG {x:o8} (h:G5 x=true):x.kind=1∨x.kind=8:=by simpa [G5] using h
theorem HC {F:List o8} (h:F.all G5=true) {k:Nat} (hk:k<F.length):F[k]!.kind=1∨F[k]!.kind=8:=
 CG (List.all_eq_true.1 h _ (by rw[getElem!_pos F k hk];exact List.getElem_mem hk))
theorem FE {F:List o8} {k:Nat} (hk:k<F.length):(F.map lK)[k]! =lK F[k]! :=by
 rw[getElem!_pos _ k (by simpa using hk),List.getElem_map,getElem!_pos F k hk]
theorem uM {x:o8} (h:x.kind=1∨x.kind=8):(lK x).kind=x.kind:=by
 unfold lK
 rcases h with h|h<;>rw[h]<;>rfl
theorem JS {x:o8} (h:x.kind=1):(lK x).purl=x.purl:=by
 unfold lK
 rw[if_neg (by omega)]
theorem IZ {B:List Bool} {F:List o8} (hF:F.all G5=true):A0 B (F.map lK) (F.map lK).length=A0 B F F.length:=by
 unfold A0
 refine List.map_congr_left fun k _=>?_
 rw[List.length_map]
 by_cases hk:k<F.length
 ·rw[FE hk,uM (HC hF hk)]
  by_cases h1:F[k]!.kind=1
  ·rw[if_pos ⟨hk,h1⟩,if_pos ⟨hk,h1⟩,JS h1]
  ·rw[if_neg (fun h=>h1 h.2),if_neg (fun h=>h1 h.2)]
 ·rw[if_neg (fun h=>hk h.1),if_neg (fun h=>hk h.1)]
theorem cH3 {B:List Bool} {F:List o8} (hF:F.all G5=true):xf B (F.map lK) F.length=xf B F F.length:=by
 unfold xf
 congr 1
 refine List.filter_congr fun k hk=>?_
 have hk:=List.mem_range.1 hk
 unfold xfP
 rw[FE hk,uM (HC hF hk)]
 by_cases h1:F[k]!.kind=1
 ·rw[JS h1]
 ·rw[decide_eq_false h1,Bool.false_and,Bool.false_and]
theorem bK2 {odd:Bool} {B:List Bool} {F:List o8} (hF:F.all G5=true):iQ odd B (F.map lK) F.length=iQ odd B F F.length:=by
 unfold iQ
 refine List.map_congr_left fun k hk=>?_
 have hk:=List.mem_range.1 hk
 unfold QC
 rw[FE hk,uM (HC hF hk)]
theorem aW7 {i:Nat} {B:List Bool} {F:List o8} (hF:F.all G5=true):aV i B (F.map lK)=aV i B F:=by
 unfold aV
 rw[IZ hF,List.length_map,cH3 hF,bK2 hF]
theorem CV:∀ (R:List (Bool × List o8)) (i:Nat) (B:List Bool),P6 R=true→Q9 i B (R.map QB)=Q9 i B R
 | [],_,_,_=>rfl
 |r::R,i,B,h=>by
  have h2:r.2.all G5=true∧P6 R=true:=by
   have:(r.2.all G5 && P6 R)=true:=h
   simpa using this
  have hs:=qS h2.1
  simp only[List.map_cons,Q9,NU]
  rw[aW7 hs,IZ hs,CV R _ _ h2.2]
theorem aX9 (r:List o8) (p k:Nat) (c:o8) (hk:k<r.length):(r.set p c)[k]! =if p=k then c else r[k]! :=by
 rw[getElem!_pos _ k (by simpa using hk),List.getElem_set,getElem!_pos r k hk]
theorem fZ {n:Nat} (g:Nat→o8):∀ (A:List B1) (r:List o8),r.length=n→(∀ i ∈ A,eZ i=g i.pos.toNat)→∀ k,k<n→(A.foldl (fun r i=>r.set i.pos.toNat (eZ i)) r)[k]! =if (∃ i ∈ A,i.pos.toNat=k) then g k else r[k]!
 | [],r,_,_,k,_=>by rw[if_neg (fun ⟨i,hi,_⟩=>by cases hi)];rfl
 |x::A,r,hr,h,k,hk=>by
  rw[List.foldl_cons,fZ g A _ (by rw[List.length_set];exact hr) (fun i hi=>h i (List.mem_cons_of_mem _ hi)) k hk]
  by_cases h1:∃ i ∈ A,i.pos.toNat=k
  ·obtain ⟨i,hi,e⟩:=h1
   rw[if_pos ⟨i,hi,e⟩,if_pos ⟨i,List.mem_cons_of_mem _ hi,e⟩]
  ·rw[if_neg h1,aX9 _ _ _ _ (by omega)]
   by_cases h2:x.pos.toNat=k
   ·rw[if_pos h2,if_pos ⟨x,List.mem_cons_self ..,h2⟩,h x (List.mem_cons_self ..),h2]
   ·rw[if_neg h2,if_neg fun ⟨i,hi,e⟩=>by
     rcases List.mem_cons.1 hi with rfl|hi
     ·exact h2 e
     ·exact h1 ⟨i,hi,e⟩]
theorem QY {a l:List o8} (h:a.length=l.length) (ha:∀ j,j<l.length→a[j]! =l[j]!):a=l:=by
 refine List.ext_getElem h fun j h1 h2=>?_
 have:=ha j h2
 rwa [getElem!_pos a j h1,getElem!_pos l j h2] at this
theorem bY4 (b:Bool):decide (bN b=1)=b:=by cases b<;>rfl
theorem aX0 {F:List o8} {B:List Bool} {odd:Bool} (hF:F.all G5=true) (hB:∀ k,k<F.length→F[k]!.kind=1→B[k]! =F[k]!.purl) (i:Nat):P9 F.length (dW i (iQ odd B F F.length))=F.map lK:=by
 have hmem:∀ x,x ∈ dW i (iQ odd B F F.length)↔∃ k,k<F.length∧x=QC odd B F k:=fun x=>by
  unfold dW
  have:x ∈ iQ odd B F F.length↔∃ k,k<F.length∧x=QC odd B F k:=by
   unfold iQ
   simp only[List.mem_map,List.mem_range]
   constructor
   ·rintro ⟨k,h1,rfl⟩;exact ⟨k,h1,rfl⟩
   ·rintro ⟨k,h1,rfl⟩;exact ⟨k,h1,rfl⟩
  split
  ·rw[List.mem_reverse];exact this
  ·exact this
 refine QY (by rw[aW,List.length_map]) fun k hk=>?_
 rw[List.length_map] at hk
 unfold P9
 rw[fZ (n:=F.length) (fun k=>lK F[k]!) _ _ (by simp) (fun x hx=>?_) k hk,if_pos ⟨_,(hmem _).2 ⟨k,hk,rfl⟩,by simp[QC]⟩,FE hk]
 obtain ⟨k,hk,rfl⟩:=(hmem x).1 hx
 have hp:(QC odd B F k).pos.toNat=k:=by simp[QC]
 rw[hp]
 rcases HC hF hk with h1|h1
 ·unfold eZ lK QC
  simp only
  rw[if_pos h1,if_neg (by decide),if_neg (by omega),bY4,hB k hk h1]
 ·unfold eZ lK QC
  simp only
  have e1:(if F[k]!.kind=1 then 3 else 5:Nat)=5:=if_neg (by omega)
  rw[e1,if_pos rfl,if_pos h1]
theorem AR (p:B1→Bool):∀ (A W:List B1),(∀ x ∈ A,p x=true)→(∀ x,W.head? =some x→p x=false)→(A++W).dropWhile p=W
 | [],[],_,_=>rfl
 | [],x::W,_,h=>by
  have:=h x rfl
  show (x::W).dropWhile p=x::W
  rw[List.dropWhile_cons,this]
  rfl
 |x::A,W,h1,h2=>by
  rw[List.cons_append,List.dropWhile_cons,h1 x (List.mem_cons_self ..)]
  exact AR p A W (fun y hy=>h1 y (List.mem_cons_of_mem _ hy)) h2
theorem DN (p:B1→Bool):∀ (A W:List B1),(∀ x ∈ A,p x=true)→(∀ x,W.head? =some x→p x=false)→(A++W).takeWhile p=A
 | [],[],_,_=>rfl
 | [],x::W,_,h=>by
  have:=h x rfl
  show (x::W).takeWhile p= []
  rw[List.takeWhile_cons,this]
  rfl
 |x::A,W,h1,h2=>by
  rw[List.cons_append,List.takeWhile_cons,h1 x (List.mem_cons_self ..)]
  show x::_=_
  rw[DN p A W (fun y hy=>h1 y (List.mem_cons_of_mem _ hy)) h2]
theorem uV {i:Nat} {L:List B1} {x:B1} (h:x ∈ dW i L):x ∈ L:=by
 unfold dW at h
 split at h
 ·exact List.mem_reverse.1 h
 ·exact h
theorem HL {odd:Bool} {B:List Bool} {F:List o8} {n:Nat} {x:B1} (h:x ∈ iQ odd B F n):∃ k,k<n∧x=QC odd B F k:=by
 unfold iQ at h
 obtain ⟨k,h1,rfl⟩:=List.mem_map.1 h
 exact ⟨k,List.mem_range.1 h1,rfl⟩
theorem cH4 {B:List Bool} {F:List o8} {n:Nat} {x:B1} (h:x ∈ xf B F n):rZ x=true:=by
 unfold xf at h
 obtain ⟨k,_,rfl⟩:=List.mem_map.1 h
 rfl
theorem bH3 {i:Nat} {B:List Bool} {F:List o8} (hF:F.all G5=true) (hB:B.length=F.length) (hz:0<F.length) (rest:List B1):nxt F.length (aV i B F++rest)=some (F.map lK,rest):=by
 have hdl:(dW i (iQ (decide (i % 2=1)) (A0 B F F.length) F F.length)).length=F.length:=by rw[uU,V9]
 have hdw:(aV i B F++rest).dropWhile rZ=dW i (iQ (decide (i % 2=1)) (A0 B F F.length) F F.length)++rest:=by
  unfold aV
  rw[List.append_assoc]
  refine AR _ _ _ (fun x hx=>cH4 hx) fun x hx=>?_
  have hmem:x ∈ dW i (iQ (decide (i % 2=1)) (A0 B F F.length) F F.length):=by
   cases hD:dW i (iQ (decide (i % 2=1)) (A0 B F F.length) F F.length) with
   |nil=>rw[hD] at hdl;simp at hdl;omega
   |cons y D=>rw[hD] at hx;simp at hx;subst hx;exact List.mem_cons_self ..
  obtain ⟨k,_,rfl⟩:=HL (uV hmem)
  unfold rZ QC
  simp only
  split<;>rfl
 have htk:(dW i (iQ (decide (i % 2=1)) (A0 B F F.length) F F.length)++rest).take F.length=dW i (iQ (decide (i % 2=1)) (A0 B F F.length) F F.length):=List.take_left' hdl
 have hdr:(dW i (iQ (decide (i % 2=1)) (A0 B F F.length) F F.length)++rest).drop F.length=rest:=List.drop_left' hdl
 unfold nxt
 rw[hdw,if_neg (by rw[List.length_append,hdl];omega),htk,hdr,if_pos,aX0 hF]
 ·intro k hk h1
  rw[O3 B F F.length k (by omega),if_pos ⟨hk,h1⟩]
 ·rw[List.all_eq_true]
  intro x hx
  obtain ⟨k,hk,rfl⟩:=HL (uV hx)
  unfold okI QC
  simp only[Bool.and_eq_true,decide_eq_true_eq]
  omega
theorem WS {i:Nat} {B:List Bool} {F:List o8} (hz:0<F.length):0<(aV i B F).length:=by
 unfold aV
 rw[List.length_append,uU,V9];omega
theorem NC {z:Nat} (hz:0<z):∀ (R:List (Bool × List o8)) (i:Nat) (B:List Bool) (f:Nat) (acc:List (Bool × List o8)),P6 R=true→(∀ r ∈ R,r.2.length=z)→B.length=z→(Q9 i B R).length≤f→QA z f (Q9 i B R) acc=some (acc++R.map QB)
 | [],i,B,f,acc,_,_,_,_=>by rw[Q9,WM];simp
 |r::R,i,B,f,acc,hp,hl,hB,hf=>by
  have h2:r.2.all G5=true∧P6 R=true:=by
   have:(r.2.all G5 && P6 R)=true:=hp
   simpa using this
  have hs:=qS h2.1
  obtain rfl:z=(u6 r).length:=by rw[R0];exact (hl r (List.mem_cons_self ..)).symm
  have hn:=WS (i:=i) (B:=B) hz
  rw[Q9] at hf ⊢
  rw[List.length_append] at hf
  have hnx:=bH3 (i:=i) (B:=B) hs hB hz (Q9 (i+1) (A0 B (u6 r) (u6 r).length) R)
  obtain ⟨g,hg,e⟩:=ND (n:=(u6 r).length) (f:=f) (acc:=acc) (fun e=>by have:=congrArg List.length e;rw[List.length_append] at this;simp only[List.length_nil] at this;omega) (by rw[List.length_append];exact hf) hnx
  rw[e]
  simp only
  rw[NC hz R (i+1) _ g _ h2.2 (fun x hx=>hl x (List.mem_cons_of_mem _ hx)) (by rw[J1];exact hB) (by omega)]
  simp[QB]
theorem SB {z:Nat} (hz:0<z) {R:List (Bool × List o8)} {B:List Bool} (hl:∀ r ∈ R,r.2.length=z):∀ x,(Q9 0 B R).head? =some x→knR x=false:=by
 intro x hx
 cases R with
 |nil=>cases hx
 |cons r R=>
  have hsl:(u6 r).length=z:=by rw[R0];exact hl r (List.mem_cons_self ..)
  have hn:=WS (i:=0) (B:=B) (F:=u6 r) (by omega)
  have hm:x ∈ aV 0 B (u6 r):=by
   rw[Q9] at hx
   cases hD:aV 0 B (u6 r) with
   |nil=>rw[hD] at hn;simp at hn
   |cons y D=>rw[hD] at hx;simp at hx;subst hx;exact List.mem_cons_self ..
  unfold aV at hm
  rcases List.mem_append.1 hm with hm|hm
  ·unfold xf at hm
   obtain ⟨k,_,rfl⟩:=List.mem_map.1 hm
   rfl
  ·obtain ⟨k,_,rfl⟩:=HL (uV hm)
   unfold knR QC
   simp
theorem aV3 {z:Nat} (hz:0<z) {R:List (Bool × List o8)} (hl:∀ r ∈ R,r.2.length=z):kO (G7 z R)=z∧(G7 z R).drop (1+z)=Q9 0 (List.replicate z false) R:=by
 have hd:(G7 z R).drop 1=(List.range z).map aJ0++Q9 0 (List.replicate z false) R:=rfl
 refine ⟨?_,?_⟩
 ·unfold kO
  rw[hd,DN _ _ _ (fun x hx=>by
   obtain ⟨k,_,rfl⟩:=List.mem_map.1 hx
   rfl) (SB hz hl)]
  simp
 ·rw[← List.drop_drop,hd,List.drop_left' (by simp)]
theorem cA4 (x:o8):F5 (lK x)=true:=by
 rw[I3]
 unfold lK
 split
 ·unfold W4;simp
 ·unfold W4;simp
theorem FF (x:o8):G5 (lK x)=true:=by
 unfold lK G5
 split<;>rfl
theorem bJ2 (R:List (Bool × List o8)):P6 (R.map QB)=true:=by
 unfold P6
 rw[List.all_map,List.all_eq_true]
 intro r _
 show ((u6 r).map lK).all G5=true
 rw[List.all_map,List.all_eq_true]
 intro x _
 exact FF x
theorem aE0 {L:List o8} (h:L.length≤200):I0 (L.map lK)=0:=by
 have hp:(L.map lK).all G5=true:=by rw[List.all_map,List.all_eq_true];intro x _;exact FF x
 obtain ⟨s1,s2⟩:=oJ hp
 unfold I0
 rw[if_neg (by rw[List.length_map];omega),if_pos (by rw[List.all_map,List.all_eq_true];intro x _;exact cA4 x),if_neg (by rw[s1,s2,List.length_map];omega)]
theorem qM {z:Nat} (hz:z≤200):∀ (R:List (Bool × List o8)),(∀ r ∈ R,r.2.length=z)→Q8 z (R.map QB)=0
 | [],_=>rfl
 |r::R,h=>by
  have hl:=h r (List.mem_cons_self ..)
  have hsl:(u6 r).length=z:=by rw[R0];exact hl
  have hp:((u6 r).map lK).all G5=true:=by rw[List.all_map,List.all_eq_true];intro x _;exact FF x
  obtain ⟨s1,s2⟩:=oJ hp
  rw[List.map_cons,iL (aE0 (by omega)) (by show E7 E3 ((u6 r).map lK)=_;rw[s1,List.length_map,hsl])]
  show Q8 (E7 H1 ((u6 r).map lK)) _=0
  rw[s2,List.length_map,hsl]
  exact qM hz R fun x hx=>h x (List.mem_cons_of_mem _ hx)
theorem AE {z:Nat} {R:List (Bool × List o8)} (hck:O4 ((z:Int),R)=0) (hpl:P6 R=true):∀ r ∈ R,r.2.length=z:=fun r hr=>by
 have:=qL (L6 hck).2.2.2 hpl r hr
 simp only at this
 omega
theorem RS {z:Nat} (hz:0<z) (hz2:z≤101) {R:List (Bool × List o8)} (hck:O4 ((z:Int),R)=0) (hpl:P6 R=true) (hlen:(G7 z R).length≤2000):Y2 (G7 z R)=(((z:Int),R.map QB),0):=by
 have hl:=AE hck hpl
 obtain ⟨h1,h2⟩:=aV3 hz hl
 have hrw:U4 (G7 z R)=some (R.map QB):=by
  unfold U4
  rw[h1,if_neg (by omega),h2,NC hz R 0 _ _ [] hpl hl (by simp) (by unfold G7;rw[List.length_append];omega)]
  rfl
 have hc:L7 ((z:Int),R.map QB)=(G7 z R,0):=by
  have k1:O4 ((z:Int),R.map QB)=0:=by
   obtain ⟨a,b,c,d⟩:=L6 hck
   simp only at a b c d
   unfold O4
   simp only
   rw[List.length_map,if_neg (by omega),if_neg (by omega),qM (by omega) R hl]
  have k2:G7 z (R.map QB)=G7 z R:=by unfold G7;rw[CV R _ _ hpl]
  unfold L7
  rw[if_neg (not_not_intro k1),if_pos (by unfold nZ;simp only;rw[bJ2,Bool.true_and,decide_eq_true_eq];omega)]
  simp only[Int.toNat_natCast]
  rw[k2,if_neg (by omega)]
 unfold Y2
 rw[if_neg (by omega),hrw]
 simp only
 rw[h1,if_pos hc]
theorem RT:Y2 [in1]=(((0:Int),[]),0):=by
 have h1:kO [in1]=0:=rfl
 have h2:U4 [in1]=some []:=rfl
 unfold Y2
 rw[if_neg (by decide),h2]
 simp only
 rw[h1,if_pos (by decide)]
 rfl
theorem aM0 {r:Bool × List o8} (h:r.2.all G5=true) (hok:r.2.all F5=true) {x:o8} (hx:x ∈ u6 r):(x.kind=1∨x.kind=8)∧x.a=0∧x.b=0:=by
 have key:∀ y:o8,y ∈ r.2→(y.kind=1∨y.kind=8)∧y.a=0∧y.b=0:=fun y hy=>by
  have h1:=CG (List.all_eq_true.1 h y hy)
  have h2:=I3.1 (List.all_eq_true.1 hok y hy)
  refine ⟨h1,?_⟩
  obtain ⟨k,p,a,b⟩:=y
  unfold W4 at h2
  simp only at h1 h2 ⊢
  rcases h1 with rfl|rfl<;>simp at h2<;>omega
 unfold u6 at hx
 split at hx
 ·unfold K5 at hx
  obtain ⟨y,hy,rfl⟩:=List.mem_map.1 hx
  obtain ⟨k1,k2,k3⟩:=key y (List.mem_reverse.1 hy)
  unfold sU
  simp only
  rw[if_neg (by omega),if_neg (by omega)]
  exact ⟨k1,k2,k3⟩
 ·exact key x hx
def PZ (x:o8):o8:=if x.kind=8 then ⟨x.kind,false,x.a,x.b⟩ else x
theorem bH1 {x:o8} (h:(x.kind=1∨x.kind=8)∧x.a=0∧x.b=0):PZ x=lK x:=by
 obtain ⟨k,p,a,b⟩:=x
 simp only at h
 obtain ⟨h1,rfl,rfl⟩:=h
 rcases h1 with rfl|rfl<;>rfl
theorem aR6 {r:Bool × List o8} (h:r.2.all G5=true) (hok:r.2.all F5=true):(u6 r).map PZ=u6 (QB r):=by
 rw[NU]
 exact List.map_congr_left fun x hx=>bH1 (aM0 h hok hx)
end Go.Proofs.YtgohenjcanfolaaGreatDoor
namespace Go.Itp
theorem xD {t e n k c:Nat} {g z:Bool} {l:List D} {x:Value}:fK [(0,.row t e g z l)] (.tup [.ref 0 k n c,.sc x]):=by
 refine mC ?_ (fun o ob ho=>by rw[(cJ ho).2]) (fun o ob ho=>by rw[(cJ ho).1];simp[T2,bX])
 simp only[Cl,IG,and_true]
 exact ⟨_,rfl,rfl⟩
end Go.Itp
namespace Go.Proofs.YtgohenjcanfolaaGreatDoor
open Go Go.Itp
set_option maxRecDepth 100000
set_option maxHeartbeats 2000000
set_option linter.unusedSimpArgs false
set_option linter.unusedVariables false
section
variable (w:World) (n:Nat)
theorem aX8 (s:Nat) (L:List o8) (hL:L.length≤1000000) (hk:0<L.length):r9 (EN w (n+1)) 82 [tS s L] (.gr 2 0 L.length) ⟨[(0,.gro 82 4 false (s5 L))],1,0⟩:=by
 have hil:=v3 L
 have hok:=WU L
 refine T0 rfl rfl (fun _ _=>rfl) (Nat.le_of_ble_eq_true rfl) (o7 w) (aW4 ⟨fun h=>by omega,fun h=>by rw[h] at hil;simp at hil;omega⟩) rfl fun C hC h0=>?_
 have hne:L.length ≠ 0:=by omega
 have hnl:C0 1 (tS s L)=some false:=by
  have h3:Nat.beq L.length 0=false:=qE.2 hne
  simp only[tS,jS,C0,h3]
  cases Nat.beq s 0<;>cases Nat.beq s 2<;>rfl
 repeat' (first|(simp (disch:=try exact m8) only[WA,b9,d9,Nat.reduceEqDiff,Nat.reduceLT,Nat.reduceAdd,Nat.reduceBEq,Int.reduceAdd,Int.reduceSub,Int.reduceLT,Int.reduceLE,Int.reduceEq,Int.reduceNeg,↓reduceIte,reduceCtorEq,List.replicate,c82,P4,hnl])|apply a8|((first|apply d7|apply c7|apply a9|apply d8|apply c8|apply b8)<;>intro _))
 exact s7 [(1,0)] 1 h0 rfl rfl rfl rfl
theorem cF3 (s:Nat) (L:List o8) (hL:L.length≤140737488351232) (hK:zQ L) (e:I0 L=0) (hne:0<L.length):r9 (EN w (n+7)) 81 [tS s L] (.tup [.ref 0 0 L.length L.length,iN 0]) ⟨[(0,.row 82 4 false false (s5 (K5 L)))],1,0⟩:=by
 have ha:=HM w n s L hL hK
 refine T0 rfl rfl (fun _ _=>rfl) (Nat.le_of_ble_eq_true rfl) (o7 w) xD rfl fun C hC h0=>?_
 rw[e] at ha
 obtain ⟨l1,l2,_⟩:=Y5 e
 have hmk:=fun nx t=>nS nx t L.length (by omega)
 have hil:=v3 L
 repeat' (first|(simp (disch:=try exact m8) only[WA,b9,d9,Nat.reduceEqDiff,Nat.reduceLT,Nat.reduceAdd,Nat.reduceBEq,Int.reduceAdd,Int.reduceSub,Int.reduceLT,Int.reduceLE,Int.reduceEq,Int.reduceNeg,↓reduceIte,reduceCtorEq,List.replicate,c81])|apply a8|((first|apply d7|apply c7|apply a9|apply d8|apply c8|apply b8)<;>intro _))
 refine g9 (by rw[hC];exact ha.flat rfl rfl) ?_
 repeat' (first|(simp (disch:=try exact m8) only[WA,b9,d9,Nat.reduceEqDiff,Nat.reduceLT,Nat.reduceAdd,Nat.reduceBEq,Int.reduceAdd,Int.reduceSub,Int.reduceLT,Int.reduceLE,Int.reduceEq,Int.reduceNeg,↓reduceIte,reduceCtorEq,List.replicate,hmk])|apply a8|((first|apply d7|apply c7|apply a9|apply d8|apply c8|apply b8)<;>intro _))
 refine aE3 w (n+5) hC s L _ _ ?_
 repeat' (first|(simp (disch:=try exact m8) only[WA,b9,d9,Nat.reduceEqDiff,Nat.reduceLT,Nat.reduceAdd,Nat.reduceBEq,Int.reduceAdd,Int.reduceSub,Int.reduceLT,Int.reduceLE,Int.reduceEq,Int.reduceNeg,↓reduceIte,reduceCtorEq,List.replicate])|apply a8|((first|apply d7|apply c7|apply a9|apply d8|apply c8|apply b8)<;>intro _))
 refine GD hC rfl rfl rfl (Nat.le_of_ble_eq_true rfl) rfl (Nat.zero_le _) fun C2 h2n h2r h2p h2o hT=>?_
 repeat' (first|(simp (disch:=try exact m8) only[WA,b9,d9,Nat.reduceEqDiff,Nat.reduceLT,Nat.reduceAdd,Nat.reduceBEq,Int.reduceAdd,Int.reduceSub,Int.reduceLT,Int.reduceLE,Int.reduceEq,Int.reduceNeg,↓reduceIte,reduceCtorEq,List.replicate,bZ5])|apply a8|((first|apply d7|apply c7|apply a9|apply d8|apply c8|apply b8)<;>intro _))
 refine x9 (fun m fr st=>∃ (j:Nat),m=L.length - j∧j≤L.length∧fr= [(0,.tok 3),(1,.ptr 2 0),(3,iN ((L.length:Int) - 1 - j))]∧st=⟨bL9 s L (s5 ((L.reverse.take j).map sU++List.replicate (L.length - j) iS)) j L.length,4,0⟩) L.length ?_ ⟨_,_,.refl _ _,0,by omega,Nat.zero_le _,?_,rfl⟩ ?_
 ·rw[h2r];unfold C7;omega
 ·simp
 rintro m fr st ⟨j,rfl,hj,rfl,rfl⟩
 by_cases hlt:j<L.length
 case neg=>
  have:j=L.length:=by omega
  subst this
  have e:(L.reverse.take L.length).map sU=K5 L:=by unfold K5;rw[List.take_of_length_le (by simp)]
  rw[e,Nat.sub_self,List.replicate_zero,List.append_nil]
  have hl:=v3 (K5 L)
  rw[X3] at hl
  have hl':=X3 L
  generalize K5 L=T at*
  repeat' (first|(simp (disch:=try exact m8) only[WA,b9,d9,Nat.reduceEqDiff,Nat.reduceLT,Nat.reduceAdd,Nat.reduceBEq,Int.reduceAdd,Int.reduceSub,Int.reduceLT,Int.reduceLE,Int.reduceEq,Int.reduceNeg,↓reduceIte,reduceCtorEq,List.replicate,pD])|apply a8|((first|apply d7|apply c7|apply a9|apply d8|apply c8|apply b8)<;>intro _))
  all_goals try (exfalso;omega)
  refine ⟨fun i h=>(by cases h),Nat.zero_le _,0,.normal,rfl,rfl,?_⟩
  repeat' (first|(simp (disch:=try exact m8) only[WA,b9,d9,Nat.reduceEqDiff,Nat.reduceLT,Nat.reduceAdd,Nat.reduceBEq,Int.reduceAdd,Int.reduceSub,Int.reduceLT,Int.reduceLE,Int.reduceEq,Int.reduceNeg,↓reduceIte,reduceCtorEq,List.replicate])|apply a8|((first|apply d7|apply c7|apply a9|apply d8|apply c8|apply b8)<;>intro _))
  exact s7 [(0,0)] 1 h0 rfl rfl rfl rfl
 have hst:=oN L j hlt
 have hag:=P1 L (L.length - 1 - j) (by omega)
 have hdl:((L.reverse.take j).map sU).length=j:=by rw[List.length_map,List.length_take,List.length_reverse];omega
 have hix:((L.length:Int) - 1 - j)=((L.length - 1 - j:Nat):Int):=by omega
 have hin:((L.length:Int) - 1 - ((j+1:Nat):Int))=((L.length - 1 - j:Nat):Int) - 1:=by omega
 have hx:W4 L[L.length - 1 - j]! :=I3.1 (List.all_eq_true.1 l2 _ (by rw[getElem!_pos L _ (by omega)];exact List.getElem_mem _))
 have hrm:=OU ((L.reverse.take j).map sU) (sU L[L.length - 1 - j]!) L.length (by omega)
 rw[← hst,hdl] at hrm
 have hAl:(s5 ((L.reverse.take j).map sU++List.replicate (L.length - j) iS)).length=L.length*4:=by rw[v3,List.length_append,hdl,List.length_replicate];congr 1;omega
 have hrd:=DQ w (n+4) (E:=C.E) hC s L (s5 ((L.reverse.take j).map sU++List.replicate (L.length - j) iS)) j L.length ((L.length - 1 - j:Nat):Int) L[L.length - 1 - j]! hx hAl hlt (by omega) (.sc (.slice none 0 0)) (iN 0)
 rw[hrm] at hrd
 rw[hix]
 have hi1:L.length - 1 - j<L.length:=by omega
 generalize L[L.length - 1 - j]! =x at*
 generalize hii:L.length - 1 - j=i at*
 repeat' (first|(simp (disch:=try exact m8) only[WA,b9,d9,Nat.reduceEqDiff,Nat.reduceLT,Nat.reduceAdd,Nat.reduceBEq,Int.reduceAdd,Int.reduceSub,Int.reduceLT,Int.reduceLE,Int.reduceEq,Int.reduceNeg,↓reduceIte,reduceCtorEq,List.replicate,pD,hag])|apply a8|((first|apply d7|apply c7|apply a9|apply d8|apply c8|apply b8)<;>intro _))
 all_goals try (exfalso;omega)
 refine hT _ _ _ (hrd _ ?_)
 repeat' (first|(simp (disch:=try exact m8) only[WA,b9,d9,Nat.reduceEqDiff,Nat.reduceLT,Nat.reduceAdd,Nat.reduceBEq,Int.reduceAdd,Int.reduceSub,Int.reduceLT,Int.reduceLE,Int.reduceEq,Int.reduceNeg,↓reduceIte,reduceCtorEq,List.replicate])|apply a8|((first|apply d7|apply c7|apply a9|apply d8|apply c8|apply b8)<;>intro _))
 exact ⟨L.length - (j+1),_,_,by omega,.refl _ _,j+1,rfl,by omega,by rw[hin],rfl⟩
def aL8 (r:Bool × List o8):Itp.Obj:=if r.1=true then .row 82 4 false false (s5 (u6 r)) else .gro 82 4 false (s5 (u6 r))
def aL9 (r:Bool × List o8) (o:Nat):V:=if r.1=true then .ref o 0 r.2.length r.2.length else .gr 2 o r.2.length
theorem cA9 (s k:Nat) (hs:s ≠ 1) (z:Int) (R:List (Bool × List o8)) (hK:T1 R) (i:Nat) (hi:i<R.length) (hkk:0<R[i]!.2.length) (hck:O4 (z,R)=0):r9 (EN w (n+10)) 32 [T6 s k (z,R),iN i] (.tup [aL9 R[i]! 0,iN 0]) ⟨[(0,aL8 R[i]!)],1,0⟩:=by
 have hil:=D1 k R
 have hR:=(L6 hck).1
 simp only at hR
 have hcp:=pG w n s k hs z R (by omega) hK
 rw[hck] at hcp
 have h0r:=uL hck hi
 simp only at h0r
 obtain ⟨l1,l2,_⟩:=Y5 h0r
 have hkr:=hK.at hi
 have a0:=qO k R i hi
 have a1:=cX k R i hi
 generalize R[i]! =r at*
 obtain ⟨b,L⟩:=r
 simp only at*
 have ht:=cF3 w (n+2) k L hkr.2 hkr.1 h0r hkk
 have hcl:=aX8 w (n+8) k L (by omega) hkk
 have hil2:=v3 L
 unfold aL8 aL9 u6
 cases b with
 |true=>
  rw[if_pos rfl,if_pos rfl,if_pos rfl]
  simp only
  refine T0 rfl rfl (fun _ _=>rfl) (Nat.le_of_ble_eq_true rfl) (o7 w) xD rfl fun C hC h0=>?_
  repeat' (first|(simp (disch:=try exact m8) only[WA,b9,d9,Nat.reduceEqDiff,Nat.reduceLT,Nat.reduceAdd,Nat.reduceBEq,Int.reduceAdd,Int.reduceSub,Int.reduceLT,Int.reduceLE,Int.reduceEq,Int.reduceNeg,↓reduceIte,reduceCtorEq,List.replicate,c32,a0,a1])|apply a8|((first|apply d7|apply c7|apply a9|apply d8|apply c8|apply b8)<;>intro _))
  refine g9 (by rw[hC];exact hcp.flat rfl rfl) ?_
  repeat' (first|(simp (disch:=try exact m8) only[WA,b9,d9,Nat.reduceEqDiff,Nat.reduceLT,Nat.reduceAdd,Nat.reduceBEq,Int.reduceAdd,Int.reduceSub,Int.reduceLT,Int.reduceLE,Int.reduceEq,Int.reduceNeg,↓reduceIte,reduceCtorEq,List.replicate,a0,a1])|apply a8|((first|apply d7|apply c7|apply a9|apply d8|apply c8|apply b8)<;>intro _))
  all_goals try (exfalso;omega)
  refine aD (by rw[hC];exact ht) (by rfl) rfl rfl ?_
  repeat' (first|(simp (disch:=try exact m8) only[WA,b9,d9,Nat.reduceEqDiff,Nat.reduceLT,Nat.reduceAdd,Nat.reduceBEq,Int.reduceAdd,Int.reduceSub,Int.reduceLT,Int.reduceLE,Int.reduceEq,Int.reduceNeg,↓reduceIte,reduceCtorEq,List.replicate,qY,kP,sX,WT,R6,bG,K3])|apply a8|((first|apply d7|apply c7|apply a9|apply d8|apply c8|apply b8)<;>intro _))
  exact s7 [(1,0)] 1 h0 rfl rfl rfl rfl
 |false=>
  rw[if_neg (fun h=>by cases h),if_neg (fun h=>by cases h),if_neg (fun h=>by cases h)]
  simp only
  refine T0 rfl rfl (fun _ _=>rfl) (Nat.le_of_ble_eq_true rfl) (o7 w) (ZW ⟨fun h=>by omega,fun h=>by rw[h] at hil2;simp at hil2;omega⟩) rfl fun C hC h0=>?_
  repeat' (first|(simp (disch:=try exact m8) only[WA,b9,d9,Nat.reduceEqDiff,Nat.reduceLT,Nat.reduceAdd,Nat.reduceBEq,Int.reduceAdd,Int.reduceSub,Int.reduceLT,Int.reduceLE,Int.reduceEq,Int.reduceNeg,↓reduceIte,reduceCtorEq,List.replicate,c32,a0,a1])|apply a8|((first|apply d7|apply c7|apply a9|apply d8|apply c8|apply b8)<;>intro _))
  refine g9 (by rw[hC];exact hcp.flat rfl rfl) ?_
  repeat' (first|(simp (disch:=try exact m8) only[WA,b9,d9,Nat.reduceEqDiff,Nat.reduceLT,Nat.reduceAdd,Nat.reduceBEq,Int.reduceAdd,Int.reduceSub,Int.reduceLT,Int.reduceLE,Int.reduceEq,Int.reduceNeg,↓reduceIte,reduceCtorEq,List.replicate,a0,a1])|apply a8|((first|apply d7|apply c7|apply a9|apply d8|apply c8|apply b8)<;>intro _))
  all_goals try (exfalso;omega)
  refine aD (by rw[hC];exact hcl) (by rfl) rfl rfl ?_
  repeat' (first|(simp (disch:=try exact m8) only[WA,b9,d9,Nat.reduceEqDiff,Nat.reduceLT,Nat.reduceAdd,Nat.reduceBEq,Int.reduceAdd,Int.reduceSub,Int.reduceLT,Int.reduceLE,Int.reduceEq,Int.reduceNeg,↓reduceIte,reduceCtorEq,List.replicate,qY,kP,sX,WT,R6,bG,K3])|apply a8|((first|apply d7|apply c7|apply a9|apply d8|apply c8|apply b8)<;>intro _))
  exact s7 [(1,0)] 1 h0 rfl rfl rfl rfl
end
end Go.Proofs.YtgohenjcanfolaaGreatDoor
namespace Go.Proofs.YtgohenjcanfolaaGreatDoor
open Go Go.Itp
set_option maxRecDepth 100000
set_option linter.unusedSimpArgs false
set_option linter.unusedVariables false

set_option maxHeartbeats 4000000
def qG (z:Int) (R:List (Bool × List o8)):Bool:= !GG R && decide (O4 (z,R)=0) && nZ (z,R)
section
variable (w:World) (n:Nat)
theorem CF (s k:Nat) (z:Int) (R:List (Bool × List o8)) (hR:R.length≤140737488351232) (hK:T1 R):r9 (EN w (n+6)) 31 [T6 s k (z,R)] (.sc (.bool (qG z R))) ⟨[],0,0⟩:=by
 have h1:=YV w (n+3) s k z R hR hK
 have h2:=RR w n s k (z,R) hR hK
 have h3:=aX2 w (n+4) s k z R hR hK
 unfold qG
 refine m6 rfl rfl (fun _ _=>rfl) (Nat.le_of_ble_eq_true rfl) (o7 w) rfl fun C hC h0=>?_
 cases hg:GG R with
 |true=>
  rw[hg] at h1
  rw[Bool.not_true,Bool.false_and,Bool.false_and]
  repeat' (first|(simp (disch:=try exact m8) only[WA,b9,d9,Nat.reduceEqDiff,Nat.reduceLT,Nat.reduceAdd,Nat.reduceBEq,Int.reduceAdd,Int.reduceSub,Int.reduceLT,Int.reduceLE,Int.reduceEq,Int.reduceNeg,↓reduceIte,reduceCtorEq,List.replicate,c31])|apply a8|((first|apply d7|apply c7|apply a9|apply d8|apply c8|apply b8)<;>intro _))
  refine g9 (by rw[hC];exact h1.flat rfl rfl) ?_
  repeat' (first|(simp (disch:=try exact m8) only[WA,b9,d9,Nat.reduceEqDiff,Nat.reduceLT,Nat.reduceAdd,Nat.reduceBEq,Int.reduceAdd,Int.reduceSub,Int.reduceLT,Int.reduceLE,Int.reduceEq,Int.reduceNeg,↓reduceIte,reduceCtorEq,List.replicate])|apply a8|((first|apply d7|apply c7|apply a9|apply d8|apply c8|apply b8)<;>intro _))
  exact i7 rfl h0 rfl
 |false=>
  rw[hg] at h1
  rw[Bool.not_false,Bool.true_and]
  by_cases hc:O4 (z,R)=0
  ·rw[hc] at h2
   rw[decide_eq_true hc,Bool.true_and]
   generalize nZ (z,R)=pb at*
   repeat' (first|(simp (disch:=try exact m8) only[WA,b9,d9,Nat.reduceEqDiff,Nat.reduceLT,Nat.reduceAdd,Nat.reduceBEq,Int.reduceAdd,Int.reduceSub,Int.reduceLT,Int.reduceLE,Int.reduceEq,Int.reduceNeg,↓reduceIte,reduceCtorEq,List.replicate,c31])|apply a8|((first|apply d7|apply c7|apply a9|apply d8|apply c8|apply b8)<;>intro _))
   refine g9 (by rw[hC];exact h1.flat rfl rfl) ?_
   repeat' (first|(simp (disch:=try exact m8) only[WA,b9,d9,Nat.reduceEqDiff,Nat.reduceLT,Nat.reduceAdd,Nat.reduceBEq,Int.reduceAdd,Int.reduceSub,Int.reduceLT,Int.reduceLE,Int.reduceEq,Int.reduceNeg,↓reduceIte,reduceCtorEq,List.replicate])|apply a8|((first|apply d7|apply c7|apply a9|apply d8|apply c8|apply b8)<;>intro _))
   refine g9 (by rw[hC];exact h2.flat rfl rfl) ?_
   repeat' (first|(simp (disch:=try exact m8) only[WA,b9,d9,Nat.reduceEqDiff,Nat.reduceLT,Nat.reduceAdd,Nat.reduceBEq,Int.reduceAdd,Int.reduceSub,Int.reduceLT,Int.reduceLE,Int.reduceEq,Int.reduceNeg,↓reduceIte,reduceCtorEq,List.replicate])|apply a8|((first|apply d7|apply c7|apply a9|apply d8|apply c8|apply b8)<;>intro _))
   refine g9 (by rw[hC];exact h3.flat rfl rfl) ?_
   repeat' (first|(simp (disch:=try exact m8) only[WA,b9,d9,Nat.reduceEqDiff,Nat.reduceLT,Nat.reduceAdd,Nat.reduceBEq,Int.reduceAdd,Int.reduceSub,Int.reduceLT,Int.reduceLE,Int.reduceEq,Int.reduceNeg,↓reduceIte,reduceCtorEq,List.replicate])|apply a8|((first|apply d7|apply c7|apply a9|apply d8|apply c8|apply b8)<;>intro _))
   exact i7 rfl h0 rfl
  ·rw[decide_eq_false hc,Bool.false_and]
   generalize O4 (z,R)=e at*
   repeat' (first|(simp (disch:=try exact m8) only[WA,b9,d9,Nat.reduceEqDiff,Nat.reduceLT,Nat.reduceAdd,Nat.reduceBEq,Int.reduceAdd,Int.reduceSub,Int.reduceLT,Int.reduceLE,Int.reduceEq,Int.reduceNeg,↓reduceIte,reduceCtorEq,List.replicate,c31])|apply a8|((first|apply d7|apply c7|apply a9|apply d8|apply c8|apply b8)<;>intro _))
   refine g9 (by rw[hC];exact h1.flat rfl rfl) ?_
   repeat' (first|(simp (disch:=try exact m8) only[WA,b9,d9,Nat.reduceEqDiff,Nat.reduceLT,Nat.reduceAdd,Nat.reduceBEq,Int.reduceAdd,Int.reduceSub,Int.reduceLT,Int.reduceLE,Int.reduceEq,Int.reduceNeg,↓reduceIte,reduceCtorEq,List.replicate])|apply a8|((first|apply d7|apply c7|apply a9|apply d8|apply c8|apply b8)<;>intro _))
   refine g9 (by rw[hC];exact h2.flat rfl rfl) ?_
   repeat' (first|(simp (disch:=try exact m8) only[WA,b9,d9,Nat.reduceEqDiff,Nat.reduceLT,Nat.reduceAdd,Nat.reduceBEq,Int.reduceAdd,Int.reduceSub,Int.reduceLT,Int.reduceLE,Int.reduceEq,Int.reduceNeg,↓reduceIte,reduceCtorEq,List.replicate])|apply a8|((first|apply d7|apply c7|apply a9|apply d8|apply c8|apply b8)<;>intro _))
   all_goals try (exfalso;omega)
   exact i7 rfl h0 rfl
end
def U0 (L:List o8) (j:Nat):List o8:=(L.take j).map PZ++L.drop j
theorem nU (L:List o8) (j:Nat):(U0 L j).length=L.length:=by unfold U0;simp;omega
theorem BZ (L:List o8):U0 L 0=L:=rfl
theorem LZ (L:List o8):U0 L L.length=L.map PZ:=by unfold U0;simp
theorem tC {L:List o8} {j:Nat} (hj:j<L.length):(U0 L j)[j]! =L[j]! :=by
 have e:((L.take j).map PZ).length=j:=by rw[List.length_map,List.length_take];omega
 unfold U0
 rw[getElem!_pos _ j (by simp;omega),List.getElem_append_right (by omega),getElem!_pos L j hj]
 simp only[e,Nat.sub_self,List.getElem_drop,Nat.add_zero]
theorem BY {L:List o8} {j:Nat} (hj:j<L.length):U0 L (j+1)=(U0 L j).set j (PZ L[j]!):=by
 have e:((L.take j).map PZ).length=j:=by rw[List.length_map,List.length_take];omega
 unfold U0
 rw[List.take_succ_eq_append_getElem hj,List.map_append,List.set_append_right _ _ (by omega),e,Nat.sub_self,List.drop_eq_getElem_cons hj,List.set_cons_zero,getElem!_pos L j hj,List.append_assoc]
 rfl
theorem BX {L:List o8} {j:Nat} (hj:j<L.length) (h:L[j]!.kind ≠ 8):U0 L (j+1)=U0 L j:=by
 rw[BY hj]
 have:PZ L[j]! =(U0 L j)[j]! :=by rw[tC hj];unfold PZ;rw[if_neg h]
 rw[this,getElem!_pos _ j (by rw[nU];exact hj),List.set_getElem_self]
theorem aB1 {M:List o8} {j:Nat} {x:o8} (hj:j<M.length) (hx:M[j]! =x):(s5 M).set (j*4+1) (.sc (.bool false))=s5 (M.set j ⟨x.kind,false,x.a,x.b⟩):=by
 have h:M=M.take j++x::M.drop (j+1):=by rw[← hx,getElem!_pos M j hj,← List.drop_eq_getElem_cons hj,List.take_append_drop]
 have e:(M.take j).length=j:=by rw[List.length_take];omega
 have hs:M.set j ⟨x.kind,false,x.a,x.b⟩=M.take j++⟨x.kind,false,x.a,x.b⟩::M.drop (j+1):=by rw[List.set_eq_take_append_cons_drop,if_pos hj]
 have hd:s5 M=s5 (M.take j)++([.sc (.int .u8 x.kind),.sc (.bool x.purl),.sc (.int .i64 x.a),.sc (.int .i64 x.b)]++s5 (M.drop (j+1))):=by
  have:=congrArg s5 h
  rw[aY] at this
  rw[this]
  rfl
 have hl:(s5 (M.take j)).length=j*4:=by rw[v3,e]
 rw[hs,aY,hd,List.set_append_right _ _ (by omega),hl,show j*4+1 - j*4=1 by omega]
 rfl
theorem wD {L:List o8} {j:Nat} (hj:j<L.length) (h:L[j]!.kind=8):(s5 (U0 L j)).set (j*4+1) (.sc (.bool false))=s5 (U0 L (j+1)):=by
 rw[aB1 (by rw[nU];exact hj) (tC hj),BY hj]
 congr 2
 unfold PZ
 rw[if_pos h]
section
variable (w:World) (n:Nat)
theorem aR3 {C:B7} (hrn:C.E.rounds=C7) (L:List o8) (hL:L.length≤1000) (Y:V) (i:Nat) (c d:Itp.Obj) {K:List KF} {Q:z9}
  (hq:gK C K (.exit 2) [(2,.ptr 0 0),(5,.sc (.bool true)),(12,.ptr 1 0),(14,iN i),(15,.ref 2 0 L.length L.length),(17,Y),(19,iN L.length),(129,.sc (.bool false))] ⟨[(2,.row 82 4 false false (s5 (L.map PZ))),(1,d),(0,c)],3,0⟩ Q):
  gL C [2,5,12,14,15,17,19] uG K [(2,.ptr 0 0),(5,.sc (.bool true)),(12,.ptr 1 0),(14,iN i),(15,.ref 2 0 L.length L.length),(17,Y),(19,iN 0)] ⟨[(2,.row 82 4 false false (s5 L)),(1,d),(0,c)],3,0⟩ Q:=by
 refine x9 (fun m fr st=>∃ (k:Nat),m=L.length - k∧k≤L.length∧fr= [(2,.ptr 0 0),(5,.sc (.bool true)),(12,.ptr 1 0),(14,iN i),(15,.ref 2 0 L.length L.length),(17,Y),(19,iN k)]∧st=⟨[(2,.row 82 4 false false (s5 (U0 L k))),(1,d),(0,c)],3,0⟩) L.length ?_ ⟨_,_,.refl _ _,0,by omega,Nat.zero_le _,rfl,by rw[BZ]⟩ ?_
 ·rw[hrn];unfold C7;omega
 rintro m fr st ⟨k,rfl,hk,rfl,rfl⟩
 by_cases hlt:k<L.length
 case neg=>
  have:k=L.length:=by omega
  subst this
  rw[LZ]
  repeat' (first|(simp (disch:=try exact m8) only[WA,b9,d9,Nat.reduceEqDiff,Nat.reduceLT,Nat.reduceAdd,Nat.reduceBEq,Int.reduceAdd,Int.reduceSub,Int.reduceLT,Int.reduceLE,Int.reduceEq,Int.reduceNeg,↓reduceIte,reduceCtorEq,List.replicate,uG])|apply a8|((first|apply d7|apply c7|apply a9|apply d8|apply c8|apply b8)<;>intro _))
  all_goals try (exfalso;omega)
  exact hq
 have hM:=nU L k
 have hMl:=v3 (U0 L k)
 have h0:=xT (U0 L k) k (by omega)
 have hat:=tC hlt
 rw[hat] at h0
 by_cases h8:L[k]!.kind=8
 ·have hst:=wD hlt h8
  rw[h8] at h0
  rw[hM] at hMl
  generalize hS2:s5 (U0 L (k+1))=S2 at*
  generalize s5 (U0 L k)=S1 at*
  repeat' (first|(simp (disch:=try exact m8) only[WA,b9,d9,Nat.reduceEqDiff,Nat.reduceLT,Nat.reduceAdd,Nat.reduceBEq,Int.reduceAdd,Int.reduceSub,Int.reduceLT,Int.reduceLE,Int.reduceEq,Int.reduceNeg,↓reduceIte,reduceCtorEq,List.replicate,uG,h0,eO,eN,hst])|apply a8|((first|apply d7|apply c7|apply a9|apply d8|apply c8|apply b8)<;>intro _))
  all_goals try (exfalso;omega)
  exact ⟨L.length - (k+1),_,_,by omega,.refl _ _,k+1,rfl,by omega,rfl,by rw[hS2]⟩
 ·have hst:=BX hlt h8
  have h8':((L[k]!.kind:Nat):Int) ≠ 8:=by omega
  rw[hM] at hMl
  rw[← hst] at h0 hMl ⊢
  generalize hS2:s5 (U0 L (k+1))=S2 at*
  generalize L[k]!.kind=y at*
  repeat' (first|(simp (disch:=try exact m8) only[WA,b9,d9,Nat.reduceEqDiff,Nat.reduceLT,Nat.reduceAdd,Nat.reduceBEq,Int.reduceAdd,Int.reduceSub,Int.reduceLT,Int.reduceLE,Int.reduceEq,Int.reduceNeg,↓reduceIte,reduceCtorEq,List.replicate,uG,h0])|apply a8|((first|apply d7|apply c7|apply a9|apply d8|apply c8|apply b8)<;>intro _))
  all_goals try (exfalso;omega)
  exact ⟨L.length - (k+1),_,_,by omega,.refl _ _,k+1,rfl,by omega,rfl,by rw[hS2]⟩
theorem bH0 {C:B7} (hrn:C.E.rounds=C7) (L:List o8) (hL:L.length≤1000) (Y:V) (i:Nat) (c d:Itp.Obj) {K:List KF} {Q:z9}
  (hq:gK C K (.exit 2) [(2,.ptr 0 0),(5,.sc (.bool true)),(12,.ptr 1 0),(14,iN i),(15,.gr 2 2 L.length),(17,Y),(19,iN L.length),(129,.sc (.bool false))] ⟨[(2,.gro 82 4 false (s5 (L.map PZ))),(1,d),(0,c)],3,0⟩ Q):
  gL C [2,5,12,14,15,17,19] uG K [(2,.ptr 0 0),(5,.sc (.bool true)),(12,.ptr 1 0),(14,iN i),(15,.gr 2 2 L.length),(17,Y),(19,iN 0)] ⟨[(2,.gro 82 4 false (s5 L)),(1,d),(0,c)],3,0⟩ Q:=by
 refine x9 (fun m fr st=>∃ (k:Nat),m=L.length - k∧k≤L.length∧fr= [(2,.ptr 0 0),(5,.sc (.bool true)),(12,.ptr 1 0),(14,iN i),(15,.gr 2 2 L.length),(17,Y),(19,iN k)]∧st=⟨[(2,.gro 82 4 false (s5 (U0 L k))),(1,d),(0,c)],3,0⟩) L.length ?_ ⟨_,_,.refl _ _,0,by omega,Nat.zero_le _,rfl,by rw[BZ]⟩ ?_
 ·rw[hrn];unfold C7;omega
 rintro m fr st ⟨k,rfl,hk,rfl,rfl⟩
 by_cases hlt:k<L.length
 case neg=>
  have:k=L.length:=by omega
  subst this
  rw[LZ]
  repeat' (first|(simp (disch:=try exact m8) only[WA,b9,d9,Nat.reduceEqDiff,Nat.reduceLT,Nat.reduceAdd,Nat.reduceBEq,Int.reduceAdd,Int.reduceSub,Int.reduceLT,Int.reduceLE,Int.reduceEq,Int.reduceNeg,↓reduceIte,reduceCtorEq,List.replicate,uG])|apply a8|((first|apply d7|apply c7|apply a9|apply d8|apply c8|apply b8)<;>intro _))
  all_goals try (exfalso;omega)
  exact hq
 have hM:=nU L k
 have hMl:=v3 (U0 L k)
 have h0:=xT (U0 L k) k (by omega)
 have hat:=tC hlt
 rw[hat] at h0
 by_cases h8:L[k]!.kind=8
 ·have hst:=wD hlt h8
  rw[h8] at h0
  rw[hM] at hMl
  generalize hS2:s5 (U0 L (k+1))=S2 at*
  generalize s5 (U0 L k)=S1 at*
  repeat' (first|(simp (disch:=try exact m8) only[WA,b9,d9,Nat.reduceEqDiff,Nat.reduceLT,Nat.reduceAdd,Nat.reduceBEq,Int.reduceAdd,Int.reduceSub,Int.reduceLT,Int.reduceLE,Int.reduceEq,Int.reduceNeg,↓reduceIte,reduceCtorEq,List.replicate,uG,h0,eO,eN,hst])|apply a8|((first|apply d7|apply c7|apply a9|apply d8|apply c8|apply b8)<;>intro _))
  all_goals try (exfalso;omega)
  exact ⟨L.length - (k+1),_,_,by omega,.refl _ _,k+1,rfl,by omega,rfl,by rw[hS2]⟩
 ·have hst:=BX hlt h8
  have h8':((L[k]!.kind:Nat):Int) ≠ 8:=by omega
  rw[hM] at hMl
  rw[← hst] at h0 hMl ⊢
  generalize hS2:s5 (U0 L (k+1))=S2 at*
  generalize L[k]!.kind=y at*
  repeat' (first|(simp (disch:=try exact m8) only[WA,b9,d9,Nat.reduceEqDiff,Nat.reduceLT,Nat.reduceAdd,Nat.reduceBEq,Int.reduceAdd,Int.reduceSub,Int.reduceLT,Int.reduceLE,Int.reduceEq,Int.reduceNeg,↓reduceIte,reduceCtorEq,List.replicate,uG,h0])|apply a8|((first|apply d7|apply c7|apply a9|apply d8|apply c8|apply b8)<;>intro _))
  all_goals try (exfalso;omega)
  exact ⟨L.length - (k+1),_,_,by omega,.refl _ _,k+1,rfl,by omega,rfl,by rw[hS2]⟩
end
theorem bW2 {n:Nat} (hn:n≤2100):∀ (f:Nat) (rest:List B1) (acc:List (Bool × List o8)) {R:List (Bool × List o8)},T1 acc→QA n f rest acc=some R→T1 R∧R.length≤acc.length+f
 |0,rest,acc,R,h,e=>by
  simp only[QA,Option.some.injEq] at e
  subst e
  exact ⟨h,Nat.le_refl _⟩
 |f+1,rest,acc,R,h,e=>by
  simp only[QA] at e
  split at e
  ·cases e;exact ⟨h,by omega⟩
  ·split at e
   ·cases e
   ·rename_i p hp
    have hk:zQ p.1∧p.1.length≤140737488351232:=by
     unfold nxt at hp
     split at hp
     ·cases hp
     ·split at hp
      ·cases hp
       exact ⟨aW9 _ _,by rw[aW];omega⟩
      ·cases hp
    obtain ⟨k1,k2⟩:=bW2 hn f p.2 (acc++ [(false,p.1)]) (fun r hr=>by
     rcases List.mem_append.1 hr with hr|hr
     ·exact h r hr
     ·rw[List.mem_singleton.1 hr];exact hk) e
    refine ⟨k1,?_⟩
    rw[List.length_append] at k2
    simp at k2
    omega
theorem aV8 {L:List B1} (h:(Y2 L).2=0):L7 (Y2 L).1=(L,0)∧T1 (Y2 L).1.2∧(Y2 L).1.2.length≤2000:=by
 by_cases h1:2000<L.length
 ·unfold Y2 at h
  rw[if_pos h1] at h
  cases h
 cases hr:U4 L with
 |none=>
  unfold Y2 at h
  rw[if_neg h1,hr] at h
  cases h
 |some R=>
  have e:Y2 L=if L7 ((kO L:Int),R)=(L,0) then (((kO L:Int),R),0) else ((0,[]),12):=by
   unfold Y2
   rw[if_neg h1,hr]
  rw[e] at h ⊢
  by_cases h2:L7 ((kO L:Int),R)=(L,0)
  ·rw[if_pos h2]
   simp only
   have hK:T1 R∧R.length≤2000:=by
    unfold U4 at hr
    split at hr
    ·cases hr;exact ⟨(fun r hr=>by cases hr),by decide⟩
    ·obtain ⟨a,b⟩:=bW2 (n:=kO L) (by
      unfold kO
      have:((L.drop 1).takeWhile knR).length≤(L.drop 1).length:=(List.takeWhile_prefix _).length_le
      rw[List.length_drop] at this
      omega) _ _ _ (fun r hr=>by cases hr) hr
     simp at b
     exact ⟨a,by omega⟩
   exact ⟨h2,hK.1,hK.2⟩
  ·rw[if_neg h2] at h
   cases h
theorem aD6 {z:Nat} (hz:z≤1000) {R:List (Bool × List o8)} (hl:∀ r ∈ R,r.2.length=z):T1 (R.map QB):=fun r hr=>by
 obtain ⟨q,hq,rfl⟩:=List.mem_map.1 hr
 refine ⟨fun x hx=>?_,?_⟩
 ·obtain ⟨y,_,rfl⟩:=List.mem_map.1 hx
  unfold lK
  split
  ·show 8<256;decide
  ·show 1<256;decide
 ·show ((u6 q).map lK).length≤_
  rw[List.length_map,R0,hl q hq];omega
theorem CK {z:Nat} {R:List (Bool × List o8)} (hz2:z≤101) (hck:O4 ((z:Int),R)=0) (hpl:P6 R=true) (hlen:(G7 z R).length≤2000):
  ∃ D:List (Bool × List o8),Y2 (G7 z R)=(((z:Int),D),0)∧T1 D∧D.length≤R.length∧(0<z→D.length=R.length)∧O4 ((z:Int),D)=0∧∀ i,i<D.length→0<R[i]!.2.length∧R[i]!.2.length≤200∧D[i]!.1=false∧(u6 R[i]!).map PZ=u6 D[i]! :=by
 rcases Nat.eq_zero_or_pos z with rfl|hz
 ·refine ⟨[],?_,(fun r hr=>by cases hr),Nat.zero_le _,(fun h=>by omega),by decide,(fun i h=>by cases h)⟩
  rw[cM1 hck hpl]
  exact RT
 ·have hl:=AE hck hpl
  refine ⟨R.map QB,RS hz hz2 hck hpl hlen,aD6 (by omega) hl,by simp,(fun _=>by simp),?_,fun i hi=>?_⟩
  ·obtain ⟨a,b,c,d⟩:=L6 hck
   simp only at a b c d
   unfold O4
   simp only
   rw[List.length_map,if_neg (by omega),if_neg (by omega),qM (by omega) R hl]
  ·rw[List.length_map] at hi
   have hm:R[i]! ∈ R:=by rw[getElem!_pos R i hi];exact List.getElem_mem hi
   have hd:(R.map QB)[i]! =QB R[i]! :=by rw[getElem!_pos _ i (by simpa using hi),List.getElem_map,getElem!_pos R i hi]
   have hlr:=hl _ hm
   obtain ⟨_,hok,_⟩:=Y5 (uL hck hi)
   refine ⟨by omega,by omega,by rw[hd];rfl,?_⟩
   rw[hd]
   exact aR6 (List.all_eq_true.1 hpl _ hm) hok
def PX:AC:=c6.code
section
variable (w:World)
theorem rJ (z:Nat) (R D:List (Bool × List o8)) (hKc:T1 R) (hKd:T1 D) (hR:R.length≤100) (hck:O4 ((z:Int),R)=0) (hckd:O4 ((z:Int),D)=0) (hDl:D.length≤R.length) (hD:∀ i,i<D.length→0<R[i]!.2.length∧R[i]!.2.length≤200∧D[i]!.1=false∧(u6 R[i]!).map PZ=u6 D[i]!) (X:Itp.Obj) {C:B7} (hC:C.E=EN w 12) (h0:C.w0.nx=0) {K:List KF} {Q:z9}
  (hq:gK C K (.exit 0) [(2,.ptr 0 0),(5,.sc (.bool true)),(12,.ptr 1 0),(14,iN D.length),(97,.sc (.bool false))] ⟨[(1,.box 24 1 [iN z,.sl 3 D.length (G3 0 D)]),(0,.box 24 1 [iN z,.sl 3 R.length (G3 1 R)])],2,0⟩ Q):
  gL C [2,5,12,14] YB K [(2,.ptr 0 0),(5,.sc (.bool true)),(12,.ptr 2 0),(14,iN 0)] ⟨[(2,.box 24 1 [iN z,.sl 3 D.length (G3 0 D)]),(1,X),(0,.box 24 1 [iN z,.sl 3 R.length (G3 1 R)])],3,0⟩ Q:=by
 have hrn:C.E.rounds=C7:=by rw[hC,n7]
 have hil:=D1 1 R
 have hdl:=D1 0 D
 refine x9 (fun m fr st=>∃ (i:Nat),m=D.length - i∧i≤D.length∧fr= [(2,.ptr 0 0),(5,.sc (.bool true)),(12,.ptr 1 0),(14,iN i)]∧st=⟨[(1,.box 24 1 [iN z,.sl 3 D.length (G3 0 D)]),(0,.box 24 1 [iN z,.sl 3 R.length (G3 1 R)])],2,0⟩) D.length ?_ ⟨_,_,s7 [(2,1),(0,0)] 2 h0 rfl rfl rfl rfl,0,by omega,Nat.zero_le _,rfl,rfl⟩ ?_
 ·rw[hrn];unfold C7;omega
 rintro m fr st ⟨i,rfl,hi,rfl,rfl⟩
 by_cases hlt:i<D.length
 case neg=>
  have:i=D.length:=by omega
  subst this
  repeat' (first|(simp (disch:=try exact m8) only[WA,b9,d9,Nat.reduceEqDiff,Nat.reduceLT,Nat.reduceAdd,Nat.reduceBEq,Int.reduceAdd,Int.reduceSub,Int.reduceLT,Int.reduceLE,Int.reduceEq,Int.reduceNeg,↓reduceIte,reduceCtorEq,List.replicate,YB])|apply a8|((first|apply d7|apply c7|apply a9|apply d8|apply c8|apply b8)<;>intro _))
  all_goals try (exfalso;omega)
  exact hq
 obtain ⟨k1,k2,k3,k4⟩:=hD i hlt
 have f1:=cA9 w 2 3 1 (by decide) z R hKc i (by omega) k1 hck
 have f2:=RC w 2 3 0 (by decide) z D hKd i hlt (.inr (.inr (.inl rfl))) hckd
 have a0:=qO 0 D i hlt
 rw[k3] at a0
 have hsl:=R0 R[i]!
 have hsm:=bJ7 w 11 (if R[i]!.1=true then 0 else 2) 3 ((u6 R[i]!).map PZ) (u6 D[i]!) (by rw[List.length_map];omega) (by rw[← k4,List.length_map];omega)
 rw[decide_eq_true k4] at hsm
 have hmm:=fun (K:List KF) (Q:z9)=>aR3 (C:=C) (K:=K) (Q:=Q) hrn (u6 R[i]!) (by omega) (tS 3 (u6 D[i]!)) i (.box 24 1 [iN z,.sl 3 R.length (G3 1 R)]) (.box 24 1 [iN z,.sl 3 D.length (G3 0 D)])
 have hmg:=fun (K:List KF) (Q:z9)=>bH0 (C:=C) (K:=K) (Q:=Q) hrn (u6 R[i]!) (by omega) (tS 3 (u6 D[i]!)) i (.box 24 1 [iN z,.sl 3 R.length (G3 1 R)]) (.box 24 1 [iN z,.sl 3 D.length (G3 0 D)])
 have hml:=v3 ((u6 R[i]!).map PZ)
 rw[List.length_map] at hsm hml
 rw[hsl] at hmm hmg hsm hml
 unfold aL9 aL8 at f1
 simp only[sfV,tS] at f2
 generalize R[i]! =r at*
 generalize u6 D[i]! =Y at*
 generalize u6 r=M at*
 cases hr:r.1 with
 |true=>
  rw[hr,if_pos rfl,if_pos rfl] at f1
  rw[hr,if_pos rfl] at hsm
  repeat' (first|(simp (disch:=try exact m8) only[WA,b9,d9,Nat.reduceEqDiff,Nat.reduceLT,Nat.reduceAdd,Nat.reduceBEq,Int.reduceAdd,Int.reduceSub,Int.reduceLT,Int.reduceLE,Int.reduceEq,Int.reduceNeg,↓reduceIte,reduceCtorEq,List.replicate,YB])|apply a8|((first|apply d7|apply c7|apply a9|apply d8|apply c8|apply b8)<;>intro _))
  all_goals try (exfalso;omega)
  refine aD (by rw[hC];exact f1) (by rfl) rfl rfl ?_
  repeat' (first|(simp (disch:=try exact m8) only[WA,b9,d9,Nat.reduceEqDiff,Nat.reduceLT,Nat.reduceAdd,Nat.reduceBEq,Int.reduceAdd,Int.reduceSub,Int.reduceLT,Int.reduceLE,Int.reduceEq,Int.reduceNeg,↓reduceIte,reduceCtorEq,List.replicate,qY,kP,sX,WT,R6,bG,K3])|apply a8|((first|apply d7|apply c7|apply a9|apply d8|apply c8|apply b8)<;>intro _))
  refine D9 (by rw[hC];exact f2) rfl rfl (fun _=>rfl) ?_
  repeat' (first|(simp (disch:=try exact m8) only[WA,b9,d9,Nat.reduceEqDiff,Nat.reduceLT,Nat.reduceAdd,Nat.reduceBEq,Int.reduceAdd,Int.reduceSub,Int.reduceLT,Int.reduceLE,Int.reduceEq,Int.reduceNeg,↓reduceIte,reduceCtorEq,List.replicate,a0])|apply a8|((first|apply d7|apply c7|apply a9|apply d8|apply c8|apply b8)<;>intro _))
  all_goals try (exfalso;omega)
  refine hmm _ _ ?_
  repeat' (first|(simp (disch:=try exact m8) only[WA,b9,d9,Nat.reduceEqDiff,Nat.reduceLT,Nat.reduceAdd,Nat.reduceBEq,Int.reduceAdd,Int.reduceSub,Int.reduceLT,Int.reduceLE,Int.reduceEq,Int.reduceNeg,↓reduceIte,reduceCtorEq,List.replicate])|apply a8|((first|apply d7|apply c7|apply a9|apply d8|apply c8|apply b8)<;>intro _))
  refine g9 (by rw[hC];exact hsm.flat rfl (by
   show (A7 _ (.ref 2 0 _ _)).bind _=_
   rw[DB rfl hml]
   rfl)) ?_
  repeat' (first|(simp (disch:=try exact m8) only[WA,b9,d9,Nat.reduceEqDiff,Nat.reduceLT,Nat.reduceAdd,Nat.reduceBEq,Int.reduceAdd,Int.reduceSub,Int.reduceLT,Int.reduceLE,Int.reduceEq,Int.reduceNeg,↓reduceIte,reduceCtorEq,List.replicate])|apply a8|((first|apply d7|apply c7|apply a9|apply d8|apply c8|apply b8)<;>intro _))
  exact ⟨D.length - (i+1),_,_,by omega,s7 [(1,1),(0,0)] 2 h0 rfl rfl rfl rfl,i+1,rfl,by omega,rfl,rfl⟩
 |false=>
  rw[hr,if_neg (by decide),if_neg (by decide)] at f1
  rw[hr,if_neg (by decide)] at hsm
  repeat' (first|(simp (disch:=try exact m8) only[WA,b9,d9,Nat.reduceEqDiff,Nat.reduceLT,Nat.reduceAdd,Nat.reduceBEq,Int.reduceAdd,Int.reduceSub,Int.reduceLT,Int.reduceLE,Int.reduceEq,Int.reduceNeg,↓reduceIte,reduceCtorEq,List.replicate,YB])|apply a8|((first|apply d7|apply c7|apply a9|apply d8|apply c8|apply b8)<;>intro _))
  all_goals try (exfalso;omega)
  refine aD (by rw[hC];exact f1) (by rfl) rfl rfl ?_
  repeat' (first|(simp (disch:=try exact m8) only[WA,b9,d9,Nat.reduceEqDiff,Nat.reduceLT,Nat.reduceAdd,Nat.reduceBEq,Int.reduceAdd,Int.reduceSub,Int.reduceLT,Int.reduceLE,Int.reduceEq,Int.reduceNeg,↓reduceIte,reduceCtorEq,List.replicate,qY,kP,sX,WT,R6,bG,K3])|apply a8|((first|apply d7|apply c7|apply a9|apply d8|apply c8|apply b8)<;>intro _))
  refine D9 (by rw[hC];exact f2) rfl rfl (fun _=>rfl) ?_
  repeat' (first|(simp (disch:=try exact m8) only[WA,b9,d9,Nat.reduceEqDiff,Nat.reduceLT,Nat.reduceAdd,Nat.reduceBEq,Int.reduceAdd,Int.reduceSub,Int.reduceLT,Int.reduceLE,Int.reduceEq,Int.reduceNeg,↓reduceIte,reduceCtorEq,List.replicate,a0])|apply a8|((first|apply d7|apply c7|apply a9|apply d8|apply c8|apply b8)<;>intro _))
  all_goals try (exfalso;omega)
  refine hmg _ _ ?_
  repeat' (first|(simp (disch:=try exact m8) only[WA,b9,d9,Nat.reduceEqDiff,Nat.reduceLT,Nat.reduceAdd,Nat.reduceBEq,Int.reduceAdd,Int.reduceSub,Int.reduceLT,Int.reduceLE,Int.reduceEq,Int.reduceNeg,↓reduceIte,reduceCtorEq,List.replicate])|apply a8|((first|apply d7|apply c7|apply a9|apply d8|apply c8|apply b8)<;>intro _))
  refine g9 (by rw[hC];exact hsm.flat rfl (by
   show (A7 _ (.gr 2 2 _)).bind _=_
   rw[NZ rfl hml]
   rfl)) ?_
  repeat' (first|(simp (disch:=try exact m8) only[WA,b9,d9,Nat.reduceEqDiff,Nat.reduceLT,Nat.reduceAdd,Nat.reduceBEq,Int.reduceAdd,Int.reduceSub,Int.reduceLT,Int.reduceLE,Int.reduceEq,Int.reduceNeg,↓reduceIte,reduceCtorEq,List.replicate])|apply a8|((first|apply d7|apply c7|apply a9|apply d8|apply c8|apply b8)<;>intro _))
  exact ⟨D.length - (i+1),_,_,by omega,s7 [(1,1),(0,0)] 2 h0 rfl rfl rfl rfl,i+1,rfl,by omega,rfl,rfl⟩
theorem JR (zi:Int) (R:List (Bool × List o8)) (hKc:T1 R) (hc:R.length≤140737488351232) (X:Itp.Obj) {C:B7} (hC:C.E=EN w 12) (h0:C.w0.nx=0):
  gC C (AC.r (AC.r (AC.r (AC.r (AC.r PX))))) [] [(2,.ptr 0 0),(5,.sc (.bool true)),(48,.sc (.bool false))] ⟨[(1,X),(0,.box 24 1 [iN zi,.sl 3 R.length (G3 1 R)])],2,0⟩ (tH C c6.res (.sc (.bool true)) ⟨[],0,0⟩):=by
 have hpl:=CF w 6 3 1 zi R hc hKc
 have hil:=D1 1 R
 have hrn:C.E.rounds=C7:=by rw[hC,n7]
 cases hb:qG zi R with
 |false=>
  rw[hb] at hpl
  repeat' (first|(simp (disch:=try exact m8) only[WA,b9,d9,Nat.reduceEqDiff,Nat.reduceLT,Nat.reduceAdd,Nat.reduceBEq,Int.reduceAdd,Int.reduceSub,Int.reduceLT,Int.reduceLE,Int.reduceEq,Int.reduceNeg,↓reduceIte,reduceCtorEq,List.replicate,PX,c6,AC.r])|apply a8|((first|apply d7|apply c7|apply a9|apply d8|apply c8|apply b8)<;>intro _))
  refine g9 (by rw[hC];exact hpl.flat rfl rfl) ?_
  repeat' (first|(simp (disch:=try exact m8) only[WA,b9,d9,Nat.reduceEqDiff,Nat.reduceLT,Nat.reduceAdd,Nat.reduceBEq,Int.reduceAdd,Int.reduceSub,Int.reduceLT,Int.reduceLE,Int.reduceEq,Int.reduceNeg,↓reduceIte,reduceCtorEq,List.replicate])|apply a8|((first|apply d7|apply c7|apply a9|apply d8|apply c8|apply b8)<;>intro _))
  exact i7 rfl h0 rfl
 |true=>
 rw[hb] at hpl
 have hcp:=jI w 1 3 1 (by decide) (.inl rfl) zi R hc hKc
 have hbb:O4 (zi,R)=0∧nZ (zi,R)=true:=by
  unfold qG at hb
  simp only[Bool.and_eq_true,decide_eq_true_eq] at hb
  exact ⟨hb.1.2,hb.2⟩
 by_cases e1:(L7 (zi,R)).2=0
 case neg=>
  have e4:(L7 (zi,R)).2=4:=by
   unfold L7 at e1 ⊢
   rw[if_neg (not_not_intro hbb.1),if_pos hbb.2] at e1 ⊢
   split at e1
   ·rename_i h;rw[if_pos h]
   ·exact absurd rfl e1
  generalize L7 (zi,R)=cf at*
  obtain ⟨P,e⟩:=cf
  simp only at e1 e4 hcp
  subst e4
  repeat' (first|(simp (disch:=try exact m8) only[WA,b9,d9,Nat.reduceEqDiff,Nat.reduceLT,Nat.reduceAdd,Nat.reduceBEq,Int.reduceAdd,Int.reduceSub,Int.reduceLT,Int.reduceLE,Int.reduceEq,Int.reduceNeg,↓reduceIte,reduceCtorEq,List.replicate,PX,c6,AC.r])|apply a8|((first|apply d7|apply c7|apply a9|apply d8|apply c8|apply b8)<;>intro _))
  refine g9 (by rw[hC];exact hpl.flat rfl rfl) ?_
  repeat' (first|(simp (disch:=try exact m8) only[WA,b9,d9,Nat.reduceEqDiff,Nat.reduceLT,Nat.reduceAdd,Nat.reduceBEq,Int.reduceAdd,Int.reduceSub,Int.reduceLT,Int.reduceLE,Int.reduceEq,Int.reduceNeg,↓reduceIte,reduceCtorEq,List.replicate])|apply a8|((first|apply d7|apply c7|apply a9|apply d8|apply c8|apply b8)<;>intro _))
  refine D9 (by rw[hC];exact hcp) rfl rfl (fun _=>rfl) ?_
  repeat' (first|(simp (disch:=try exact m8) only[WA,b9,d9,Nat.reduceEqDiff,Nat.reduceLT,Nat.reduceAdd,Nat.reduceBEq,Int.reduceAdd,Int.reduceSub,Int.reduceLT,Int.reduceLE,Int.reduceEq,Int.reduceNeg,↓reduceIte,reduceCtorEq,List.replicate])|apply a8|((first|apply d7|apply c7|apply a9|apply d8|apply c8|apply b8)<;>intro _))
  exact i7 rfl h0 rfl
 obtain ⟨z,rfl⟩:∃ z:Nat,zi=z:=⟨zi.toNat,by
  have:=L6 hbb.1
  simp only at this
  omega⟩
 obtain ⟨c1,c2,c3,c4,c5⟩:=JT e1
 have hck:=L6 c1
 simp only at hck
 rw[show L7 ((z:Int),R)=(G7 z R,0) from Prod.ext c5 e1] at hcp
 obtain ⟨D,d1,d2,d3,d4,d5,d6⟩:=CK c3 c1 c2 c4
 have hrd:=RU w 0 (G7 z R) (by omega)
 rw[d1] at hrd
 have hdl:=D1 0 D
 simp only[WO] at hrd
 generalize G7 z R=P at*
 by_cases hz:0<z
 all_goals
  have d4':=d4
  repeat' (first|(simp (disch:=try exact m8) only[WA,b9,d9,Nat.reduceEqDiff,Nat.reduceLT,Nat.reduceAdd,Nat.reduceBEq,Int.reduceAdd,Int.reduceSub,Int.reduceLT,Int.reduceLE,Int.reduceEq,Int.reduceNeg,↓reduceIte,reduceCtorEq,List.replicate,PX,c6,AC.r])|apply a8|((first|apply d7|apply c7|apply a9|apply d8|apply c8|apply b8)<;>intro _))
  refine g9 (by rw[hC];exact hpl.flat rfl rfl) ?_
  repeat' (first|(simp (disch:=try exact m8) only[WA,b9,d9,Nat.reduceEqDiff,Nat.reduceLT,Nat.reduceAdd,Nat.reduceBEq,Int.reduceAdd,Int.reduceSub,Int.reduceLT,Int.reduceLE,Int.reduceEq,Int.reduceNeg,↓reduceIte,reduceCtorEq,List.replicate])|apply a8|((first|apply d7|apply c7|apply a9|apply d8|apply c8|apply b8)<;>intro _))
  refine D9 (by rw[hC];exact hcp) rfl rfl (fun _=>rfl) ?_
  repeat' (first|(simp (disch:=try exact m8) only[WA,b9,d9,Nat.reduceEqDiff,Nat.reduceLT,Nat.reduceAdd,Nat.reduceBEq,Int.reduceAdd,Int.reduceSub,Int.reduceLT,Int.reduceLE,Int.reduceEq,Int.reduceNeg,↓reduceIte,reduceCtorEq,List.replicate])|apply a8|((first|apply d7|apply c7|apply a9|apply d8|apply c8|apply b8)<;>intro _))
  refine D9 (by rw[hC];exact hrd) rfl rfl (fun _=>rfl) ?_
  repeat' (first|(simp (disch:=try exact m8) only[WA,b9,d9,Nat.reduceEqDiff,Nat.reduceLT,Nat.reduceAdd,Nat.reduceBEq,Int.reduceAdd,Int.reduceSub,Int.reduceLT,Int.reduceLE,Int.reduceEq,Int.reduceNeg,↓reduceIte,reduceCtorEq,List.replicate])|apply a8|((first|apply d7|apply c7|apply a9|apply d8|apply c8|apply b8)<;>intro _))
  all_goals try (exfalso;omega)
  refine rJ w z R D hKc d2 (by omega) c1 d5 d3 d6 X hC h0 ?_
  repeat' (first|(simp (disch:=try exact m8) only[WA,b9,d9,Nat.reduceEqDiff,Nat.reduceLT,Nat.reduceAdd,Nat.reduceBEq,Int.reduceAdd,Int.reduceSub,Int.reduceLT,Int.reduceLE,Int.reduceEq,Int.reduceNeg,↓reduceIte,reduceCtorEq,List.replicate])|apply a8|((first|apply d7|apply c7|apply a9|apply d8|apply c8|apply b8)<;>intro _))
  exact i7 rfl h0 rfl
theorem FD (L:List B1) (zi:Int) (R:List (Bool × List o8)) (hKc:T1 R) (hc:R.length≤140737488351232) (X:Itp.Obj) {C:B7} (hC:C.E=EN w 12) (h0:C.w0.nx=0):
  gC C (AC.r (AC.r (AC.r (AC.r (AC.r PX))))) [] [(1,jS 3 L),(2,.ptr 0 0),(5,.sc (.bool true)),(6,.ptr 1 0),(35,.sc (.bool false))] ⟨[(1,X),(0,.box 24 1 [iN zi,.sl 3 R.length (G3 1 R)])],2,0⟩ (tH C c6.res (.sc (.bool true)) ⟨[],0,0⟩):=by
 have hpl:=CF w 6 3 1 zi R hc hKc
 have hil:=D1 1 R
 have hrn:C.E.rounds=C7:=by rw[hC,n7]
 cases hb:qG zi R with
 |false=>
  rw[hb] at hpl
  repeat' (first|(simp (disch:=try exact m8) only[WA,b9,d9,Nat.reduceEqDiff,Nat.reduceLT,Nat.reduceAdd,Nat.reduceBEq,Int.reduceAdd,Int.reduceSub,Int.reduceLT,Int.reduceLE,Int.reduceEq,Int.reduceNeg,↓reduceIte,reduceCtorEq,List.replicate,PX,c6,AC.r])|apply a8|((first|apply d7|apply c7|apply a9|apply d8|apply c8|apply b8)<;>intro _))
  refine g9 (by rw[hC];exact hpl.flat rfl rfl) ?_
  repeat' (first|(simp (disch:=try exact m8) only[WA,b9,d9,Nat.reduceEqDiff,Nat.reduceLT,Nat.reduceAdd,Nat.reduceBEq,Int.reduceAdd,Int.reduceSub,Int.reduceLT,Int.reduceLE,Int.reduceEq,Int.reduceNeg,↓reduceIte,reduceCtorEq,List.replicate])|apply a8|((first|apply d7|apply c7|apply a9|apply d8|apply c8|apply b8)<;>intro _))
  exact i7 rfl h0 rfl
 |true=>
 rw[hb] at hpl
 have hcp:=jI w 1 3 1 (by decide) (.inl rfl) zi R hc hKc
 have hbb:O4 (zi,R)=0∧nZ (zi,R)=true:=by
  unfold qG at hb
  simp only[Bool.and_eq_true,decide_eq_true_eq] at hb
  exact ⟨hb.1.2,hb.2⟩
 by_cases e1:(L7 (zi,R)).2=0
 case neg=>
  have e4:(L7 (zi,R)).2=4:=by
   unfold L7 at e1 ⊢
   rw[if_neg (not_not_intro hbb.1),if_pos hbb.2] at e1 ⊢
   split at e1
   ·rename_i h;rw[if_pos h]
   ·exact absurd rfl e1
  generalize L7 (zi,R)=cf at*
  obtain ⟨P,e⟩:=cf
  simp only at e1 e4 hcp
  subst e4
  repeat' (first|(simp (disch:=try exact m8) only[WA,b9,d9,Nat.reduceEqDiff,Nat.reduceLT,Nat.reduceAdd,Nat.reduceBEq,Int.reduceAdd,Int.reduceSub,Int.reduceLT,Int.reduceLE,Int.reduceEq,Int.reduceNeg,↓reduceIte,reduceCtorEq,List.replicate,PX,c6,AC.r])|apply a8|((first|apply d7|apply c7|apply a9|apply d8|apply c8|apply b8)<;>intro _))
  refine g9 (by rw[hC];exact hpl.flat rfl rfl) ?_
  repeat' (first|(simp (disch:=try exact m8) only[WA,b9,d9,Nat.reduceEqDiff,Nat.reduceLT,Nat.reduceAdd,Nat.reduceBEq,Int.reduceAdd,Int.reduceSub,Int.reduceLT,Int.reduceLE,Int.reduceEq,Int.reduceNeg,↓reduceIte,reduceCtorEq,List.replicate])|apply a8|((first|apply d7|apply c7|apply a9|apply d8|apply c8|apply b8)<;>intro _))
  refine D9 (by rw[hC];exact hcp) rfl rfl (fun _=>rfl) ?_
  repeat' (first|(simp (disch:=try exact m8) only[WA,b9,d9,Nat.reduceEqDiff,Nat.reduceLT,Nat.reduceAdd,Nat.reduceBEq,Int.reduceAdd,Int.reduceSub,Int.reduceLT,Int.reduceLE,Int.reduceEq,Int.reduceNeg,↓reduceIte,reduceCtorEq,List.replicate])|apply a8|((first|apply d7|apply c7|apply a9|apply d8|apply c8|apply b8)<;>intro _))
  exact i7 rfl h0 rfl
 obtain ⟨z,rfl⟩:∃ z:Nat,zi=z:=⟨zi.toNat,by
  have:=L6 hbb.1
  simp only at this
  omega⟩
 obtain ⟨c1,c2,c3,c4,c5⟩:=JT e1
 have hck:=L6 c1
 simp only at hck
 rw[show L7 ((z:Int),R)=(G7 z R,0) from Prod.ext c5 e1] at hcp
 obtain ⟨D,d1,d2,d3,d4,d5,d6⟩:=CK c3 c1 c2 c4
 have hrd:=RU w 0 (G7 z R) (by omega)
 rw[d1] at hrd
 have hdl:=D1 0 D
 simp only[WO] at hrd
 generalize G7 z R=P at*
 by_cases hz:0<z
 all_goals
  have d4':=d4
  repeat' (first|(simp (disch:=try exact m8) only[WA,b9,d9,Nat.reduceEqDiff,Nat.reduceLT,Nat.reduceAdd,Nat.reduceBEq,Int.reduceAdd,Int.reduceSub,Int.reduceLT,Int.reduceLE,Int.reduceEq,Int.reduceNeg,↓reduceIte,reduceCtorEq,List.replicate,PX,c6,AC.r])|apply a8|((first|apply d7|apply c7|apply a9|apply d8|apply c8|apply b8)<;>intro _))
  refine g9 (by rw[hC];exact hpl.flat rfl rfl) ?_
  repeat' (first|(simp (disch:=try exact m8) only[WA,b9,d9,Nat.reduceEqDiff,Nat.reduceLT,Nat.reduceAdd,Nat.reduceBEq,Int.reduceAdd,Int.reduceSub,Int.reduceLT,Int.reduceLE,Int.reduceEq,Int.reduceNeg,↓reduceIte,reduceCtorEq,List.replicate])|apply a8|((first|apply d7|apply c7|apply a9|apply d8|apply c8|apply b8)<;>intro _))
  refine D9 (by rw[hC];exact hcp) rfl rfl (fun _=>rfl) ?_
  repeat' (first|(simp (disch:=try exact m8) only[WA,b9,d9,Nat.reduceEqDiff,Nat.reduceLT,Nat.reduceAdd,Nat.reduceBEq,Int.reduceAdd,Int.reduceSub,Int.reduceLT,Int.reduceLE,Int.reduceEq,Int.reduceNeg,↓reduceIte,reduceCtorEq,List.replicate])|apply a8|((first|apply d7|apply c7|apply a9|apply d8|apply c8|apply b8)<;>intro _))
  refine D9 (by rw[hC];exact hrd) rfl rfl (fun _=>rfl) ?_
  repeat' (first|(simp (disch:=try exact m8) only[WA,b9,d9,Nat.reduceEqDiff,Nat.reduceLT,Nat.reduceAdd,Nat.reduceBEq,Int.reduceAdd,Int.reduceSub,Int.reduceLT,Int.reduceLE,Int.reduceEq,Int.reduceNeg,↓reduceIte,reduceCtorEq,List.replicate])|apply a8|((first|apply d7|apply c7|apply a9|apply d8|apply c8|apply b8)<;>intro _))
  all_goals try (exfalso;omega)
  refine rJ w z R D hKc d2 (by omega) c1 d5 d3 d6 X hC h0 ?_
  repeat' (first|(simp (disch:=try exact m8) only[WA,b9,d9,Nat.reduceEqDiff,Nat.reduceLT,Nat.reduceAdd,Nat.reduceBEq,Int.reduceAdd,Int.reduceSub,Int.reduceLT,Int.reduceLE,Int.reduceEq,Int.reduceNeg,↓reduceIte,reduceCtorEq,List.replicate])|apply a8|((first|apply d7|apply c7|apply a9|apply d8|apply c8|apply b8)<;>intro _))
  exact i7 rfl h0 rfl
end
section
variable (w:World)
theorem aJ1 (c:PW) (hKc:T1 c.2) (L:List B1) (hc:c.2.length≤140737488351232) (hL:L.length≤140737488351232) {C:B7} (hC:C.E=EN w 12) (h0:C.w0.nx=0):
  gC C c6.code [] (Y3 0 [T6 3 1 c,jS 3 L]) ⟨[],0,0⟩ (tH C c6.res (.sc (.bool true)) ⟨[],0,0⟩):=by
 obtain ⟨zi,R⟩:=c
 simp only at hKc hc
 have hal:=fun st=>bD2 w 11 st
 have hil:=x8 L
 by_cases hl:300<L.length
 ·repeat' (first|(simp (disch:=try exact m8) only[WA,b9,d9,Nat.reduceEqDiff,Nat.reduceLT,Nat.reduceAdd,Nat.reduceBEq,Int.reduceAdd,Int.reduceSub,Int.reduceLT,Int.reduceLE,Int.reduceEq,Int.reduceNeg,↓reduceIte,reduceCtorEq,List.replicate,c6])|apply a8|((first|apply d7|apply c7|apply a9|apply d8|apply c8|apply b8)<;>intro _))
  refine g9 (by rw[hC];exact hal _) ?_
  repeat' (first|(simp (disch:=try exact m8) only[WA,b9,d9,Nat.reduceEqDiff,Nat.reduceLT,Nat.reduceAdd,Nat.reduceBEq,Int.reduceAdd,Int.reduceSub,Int.reduceLT,Int.reduceLE,Int.reduceEq,Int.reduceNeg,↓reduceIte,reduceCtorEq,List.replicate])|apply a8|((first|apply d7|apply c7|apply a9|apply d8|apply c8|apply b8)<;>intro _))
  all_goals try (exfalso;omega)
  exact i7 rfl h0 rfl
 obtain ⟨T,hT⟩:∃ T,T=AC.r (AC.r (AC.r (AC.r (AC.r PX)))):=⟨_,rfl⟩
 have hcd:c6.code= .seq (AC.l PX) (.seq (AC.l (AC.r PX)) (.seq (AC.l (AC.r (AC.r PX))) (.seq (AC.l (AC.r (AC.r (AC.r PX)))) (.seq (AC.l (AC.r (AC.r (AC.r (AC.r PX))))) T)))):=by rw[hT];rfl
 have htl:=fun X=>JR w zi R hKc hc X hC h0
 have htl2:=fun X=>FD w L zi R hKc hc X hC h0
 rw[← hT] at htl htl2
 clear hT
 rw[hcd]
 have hrd:=RU w 0 L hL
 have hrf:=aV8 (L:=L)
 simp only[WO] at hrd
 have hj:=bG6 w 11 3 3 L L hL hL
 rw[decide_eq_true rfl] at hj
 generalize Y2 L=rf at*
 obtain ⟨⟨z2,D⟩,e⟩:=rf
 simp only at hrd hrf
 by_cases he:e=0
 ·obtain ⟨r1,r2,r3⟩:=hrf he
  subst he
  have hcp:=jI w 1 3 0 (by decide) (.inr (.inr rfl)) z2 D (by omega) r2
  rw[r1] at hcp
  repeat' (first|(simp (disch:=try exact m8) only[WA,b9,d9,Nat.reduceEqDiff,Nat.reduceLT,Nat.reduceAdd,Nat.reduceBEq,Int.reduceAdd,Int.reduceSub,Int.reduceLT,Int.reduceLE,Int.reduceEq,Int.reduceNeg,↓reduceIte,reduceCtorEq,List.replicate,PX,c6,AC.l,AC.r])|apply a8|((first|apply d7|apply c7|apply a9|apply d8|apply c8|apply b8)<;>intro _))
  refine g9 (by rw[hC];exact hal _) ?_
  repeat' (first|(simp (disch:=try exact m8) only[WA,b9,d9,Nat.reduceEqDiff,Nat.reduceLT,Nat.reduceAdd,Nat.reduceBEq,Int.reduceAdd,Int.reduceSub,Int.reduceLT,Int.reduceLE,Int.reduceEq,Int.reduceNeg,↓reduceIte,reduceCtorEq,List.replicate])|apply a8|((first|apply d7|apply c7|apply a9|apply d8|apply c8|apply b8)<;>intro _))
  all_goals try (exfalso;omega)
  refine D9 (by rw[hC];exact hrd) rfl rfl (fun _=>rfl) ?_
  repeat' (first|(simp (disch:=try exact m8) only[WA,b9,d9,Nat.reduceEqDiff,Nat.reduceLT,Nat.reduceAdd,Nat.reduceBEq,Int.reduceAdd,Int.reduceSub,Int.reduceLT,Int.reduceLE,Int.reduceEq,Int.reduceNeg,↓reduceIte,reduceCtorEq,List.replicate])|apply a8|((first|apply d7|apply c7|apply a9|apply d8|apply c8|apply b8)<;>intro _))
  refine D9 (by rw[hC];exact hcp) rfl rfl (fun _=>rfl) ?_
  repeat' (first|(simp (disch:=try exact m8) only[WA,b9,d9,Nat.reduceEqDiff,Nat.reduceLT,Nat.reduceAdd,Nat.reduceBEq,Int.reduceAdd,Int.reduceSub,Int.reduceLT,Int.reduceLE,Int.reduceEq,Int.reduceNeg,↓reduceIte,reduceCtorEq,List.replicate])|apply a8|((first|apply d7|apply c7|apply a9|apply d8|apply c8|apply b8)<;>intro _))
  refine g9 (by rw[hC];exact hj.flat rfl rfl) ?_
  repeat' (first|(simp (disch:=try exact m8) only[WA,b9,d9,Nat.reduceEqDiff,Nat.reduceLT,Nat.reduceAdd,Nat.reduceBEq,Int.reduceAdd,Int.reduceSub,Int.reduceLT,Int.reduceLE,Int.reduceEq,Int.reduceNeg,↓reduceIte,reduceCtorEq,List.replicate])|apply a8|((first|apply d7|apply c7|apply a9|apply d8|apply c8|apply b8)<;>intro _))
  exact htl _
 ·repeat' (first|(simp (disch:=try exact m8) only[WA,b9,d9,Nat.reduceEqDiff,Nat.reduceLT,Nat.reduceAdd,Nat.reduceBEq,Int.reduceAdd,Int.reduceSub,Int.reduceLT,Int.reduceLE,Int.reduceEq,Int.reduceNeg,↓reduceIte,reduceCtorEq,List.replicate,PX,c6,AC.l,AC.r])|apply a8|((first|apply d7|apply c7|apply a9|apply d8|apply c8|apply b8)<;>intro _))
  refine g9 (by rw[hC];exact hal _) ?_
  repeat' (first|(simp (disch:=try exact m8) only[WA,b9,d9,Nat.reduceEqDiff,Nat.reduceLT,Nat.reduceAdd,Nat.reduceBEq,Int.reduceAdd,Int.reduceSub,Int.reduceLT,Int.reduceLE,Int.reduceEq,Int.reduceNeg,↓reduceIte,reduceCtorEq,List.replicate])|apply a8|((first|apply d7|apply c7|apply a9|apply d8|apply c8|apply b8)<;>intro _))
  all_goals try (exfalso;omega)
  refine D9 (by rw[hC];exact hrd) rfl rfl (fun _=>rfl) ?_
  repeat' (first|(simp (disch:=try exact m8) only[WA,b9,d9,Nat.reduceEqDiff,Nat.reduceLT,Nat.reduceAdd,Nat.reduceBEq,Int.reduceAdd,Int.reduceSub,Int.reduceLT,Int.reduceLE,Int.reduceEq,Int.reduceNeg,↓reduceIte,reduceCtorEq,List.replicate,he])|apply a8|((first|apply d7|apply c7|apply a9|apply d8|apply c8|apply b8)<;>intro _))
  exact htl2 _
end
end Go.Proofs.YtgohenjcanfolaaGreatDoor
