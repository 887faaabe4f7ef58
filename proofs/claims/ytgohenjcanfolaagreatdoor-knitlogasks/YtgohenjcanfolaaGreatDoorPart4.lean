/- What is proved: the law KnitlogAsks returns true for every input.
   Texts: V25, V26, VV, V30, Closed, SP, V31, V27, V28, V32, V33, V29, V40, V34, V35, V36, V41, V37, V38, V39, V42, V43, V44, V45, V46, V47, V48, V49, V57, V55, V52, V60, V50, V53, V58, V59, V54, V56.
-/
import Derived.Test.YtgohenjcanfolaaGreatDoorPart3
import Derived.OpenShut
import Derived.LaidMore
import Derived.MakeChecks
import Derived.WalkSmall
import Derived.Lib.LaidTab
import Derived.Sort.Grow
import Derived.Shelf.Strconv.Itoa3
import Derived.Lib.AtoiAll
import Derived.Lib.AtoiErrMem
import Derived.Lib.ItoaNum
import Derived.Lib.Atoi
import Derived.Lib.AtoiTie
import Derived.ChangeSame
import Derived.Lib.Join
import Derived.Lib.Replace
import Derived.SizedLaws
import Derived.HandedShaped
import Derived.Shelf.Vars
namespace Go.Itp
set_option linter.unusedVariables false
set_option linter.constructorNameAsVariable false
set_option linter.unusedSimpArgs false
structure S1 where
 v:List Nat
 w:List Nat
 n:List Nat
  /-- it sees all but v -/
 a:Bool
  /-- its new objects are a stretch's -/
 r:Bool
def S1.out (l:List Nat) (q:S1):Bool:=if q.a then ON l q.v else RA l q.v
def S1.ok (p q:S1):Bool:=q.out p.w && p.out q.w && q.out p.n
def jB (rs:List S1) (q:S1):List Nat->Bool
 | []=>true
 |k::r=>(match E1 rs k with|some p=>p.ok q|none=>false) && jB rs q r
def ZX:M8->Bool
 | .mov _=>true
 | .pick _ _ _=>true
 | .alloc _ _=>true
 | .box _ _=>true
 | .build _ _=>true
 | .mkRow _ _ _ _ _=>true
 | .nilChk _=>true
 | .bin _ _ _=>true
 | .eqB _ _ _=>true
 | .eqNil _ _ _ _=>true
 | .un _ _=>true
 | .convI _ _=>true
 | .convS _=>true
 | .mkSlice _ _ _ _ _ _=>true
 | .slcS _ _ _=>true
 | .slc _ _ _ _ _=>true
 | .slcA _ _ _ _ _=>true
 | .fldA _ _=>true
 | .fldV _ _ _=>true
 | .idxS _ _ _=>true
 | .idxA _ _ _ _=>true
 | .idxStr _ _=>true
 | .idxV _ _ _ _ _=>true
 | .ext _ _=>true
 | .mkFn _ _ _=>true
 | .mkIf _ _=>true
 | .len _ _=>true
 | .mm _ _ _=>true
 | .eqIf _ _ _ _ _=>true
 | .eqAgg _ _ _ _=>true
 |_=>false
def dH2:V->List Nat
 | .ptr o _=> [o]
 |_=> []
def GO (old:Nat->Nat->Option Value) (st:n9) (k:Option Nat) (u:Option V):Option (V × n9 × S1):=u.bind fun u=>(dU old st.own k u).map fun v=>(v,st,⟨dH2 u,[],[],false,false⟩)
def qL (st:n9) (o k:Nat) (y:Value):Option Obj->Option (V × n9 × S1)
 |some (.row t e g false l)=>if Nat.ble st.ro o && Nat.blt k l.length then some (.tup [],⟨A3 st.own o (.row t e g false (l.set k (.sc y))),st.next,st.ro⟩,⟨[o],[o],[],false,false⟩) else none
 |some (.box t e l)=>if Nat.ble st.ro o && Nat.blt k l.length then some (.tup [],⟨A3 st.own o (.box t e (l.set k (.sc y))),st.next,st.ro⟩,⟨[o],[o],[],false,false⟩) else none
 |some (.gro t e false l)=>if Nat.ble st.ro o && Nat.blt k l.length then some (.tup [],⟨A3 st.own o (.gro t e false (l.set k (.sc y))),st.next,st.ro⟩,⟨[o],[o],[],false,false⟩) else none
 |_=>none
def MD (st:n9):Option V->Option V->Option (V × n9 × S1)
 |some (.ptr o k),some (.sc y)=>qL st o k y (j7 st.own o)
 |_,_=>none
def bR9:List V->Bool
 | []=>true
 | .sc _::r=>bR9 r
 | .sl _ _ _::r=>bR9 r
 |_::_=>false
def OF:List V->Option (List D)
 | []=>some []
 | .sc x::r=>(OF r).map fun l=> .sc x::l
 |_::_=>none
def iO (st:n9) (n:Nat):Option V->Option V->Option (V × n9 × S1)
 |some (.ptr o k),some (.agg ys)=>match j7 st.own o with
  |some (.box t e l)=>if Nat.ble st.ro o && Nat.beq ys.length n && bR9 ys then (F8 l k ys).map fun l=>(.tup [],⟨A3 st.own o (.box t e l),st.next,st.ro⟩,⟨[o],[o],[],false,false⟩) else none
  |some (.row t e g false l)=>if Nat.ble st.ro o && Nat.beq ys.length n && !Nat.beq n 0 then (OF ys).bind fun ds=>(F8 l k ds).map fun l=>(.tup [],⟨A3 st.own o (.row t e g false l),st.next,st.ro⟩,⟨[o],[o],[],false,false⟩) else none
  |some (.gro t e false l)=>if Nat.ble st.ro o && Nat.beq ys.length n && !Nat.beq n 0 then (OF ys).bind fun ds=>(F8 l k ds).map fun l=>(.tup [],⟨A3 st.own o (.gro t e false l),st.next,st.ro⟩,⟨[o],[o],[],false,false⟩) else none
  |_=>none
 |_,_=>none
def bF5 (st:n9) (e:Nat):Option V->Option V->Option (V × n9 × S1):=fun _ _=>none
def QW (st:n9):VO->Option (V × n9 × S1)
 |some (v,none,[])=>some (v,st,⟨[],[],[],false,false⟩)
 |some (v,some ob,[])=>some (v,⟨(st.next,ob)::st.own,st.next+1,st.ro⟩,⟨[],[],[st.next],false,false⟩)
 |_=>none
def aC5 (old:Nat->Nat->Option Value) (f:D0) (st:n9) (o:M8) (hint:Option (List Nat)):Option (V × n9 × S1):=
 match o with
 | .load k a=>GO old st k (s5 f a)
 | .store n a x=>if Nat.beq n 1 then MD st (s5 f a) (s5 f x) else iO st n (s5 f a) (s5 f x)
 | .copy e d x=>bF5 st e (s5 f d) (s5 f x)
 |o=>if hint.isNone && ZX o then QW st (j6 old f st.own st.next o) else none
def bF3 (st:n9) (t e b:Nat):Option V->Option V->Option (V × n9 × S1):=fun _ _=>none
def V7 (old:Nat->Nat->Option Value) (f:D0) (st:n9) (o:M8) (hint:Option (List Nat)):Option (V × n9 × S1):=
 match o with
 | .app t e b x y=>bF3 st t e b (s5 f x) (s5 f y)
 |o=>aC5 old f st o hint
def zW (rs:List S1):List Nat->Bool
 | []=>true
 |k::r=>(match E1 rs k with|some p=>p.n.isEmpty && !p.r|none=>false) && zW rs r
def wpS (C:C8) (o:M8) (hint:Option (List Nat)) (conc:List Nat) (rs:List S1) (f:D0) (st:n9) (Q:V->n9->S1->Prop):Prop:=
 match o with
 | .callF g xs=>hint=some []/\zW rs conc=true/\∃ args v,V3 f xs=some args/\E7 C.E g st args v/\Q v st ⟨[],[],[],true,false⟩
 |o=>match V7 C.E.old f st o hint with|some (v,st',r)=>Q v st' r|none=>False
def wpD (C:C8):List sL->List S1->D0->n9->(D0->n9->Prop)->Prop
 | [],_,fr,st,Q=>Q fr st
 |x::l,rs,fr,st,Q=>match x.o.guard with
   |none=>wpS C x.o.op x.hint x.conc rs (A8 (r9 x.o) fr) st fun v st' r=>jB rs r x.conc=true/\wpD C l (rs++ [r]) (u7 fr x.o.dst v) st' Q
   |some (t,want)=>match j7 fr t with
     |some (.sc (.bool b))=>if b==want then (wpS C x.o.op x.hint x.conc rs (A8 (r9 x.o) fr) st fun v st' r=>jB rs r x.conc=true/\wpD C l (rs++ [r]) (u7 fr x.o.dst v) st' Q) else wpD C l (rs++ [⟨[],[],[],false,false⟩]) (u7 fr x.o.dst (.tup [])) st Q
     |some (.tup _)=>wpD C l (rs++ [⟨[],[],[],false,false⟩]) (u7 fr x.o.dst (.tup [])) st Q
     |_=>False
theorem aU6 {E:G3} {f:Fr} {h:o7} {n p:Nat} {o:M8} (ho:ZX o=true):d9 E f ⟨[],n,n⟩ o=d9 E f ⟨h,n,p⟩ o:=by
 cases o<;>first|rfl|cases ho
def dK5 (μ:Nat->Option Nat) (F:Nat->Prop) (w:NW) (l:List Nat) (r:Bool):Prop:=
 (r=false/\∃ ln,w= .fix ln/\∀ b ∈ ln,¬ F b/\∃ o ∈ l,μ o=some b)\/(r=true/\((∃ m,w= .rng m m)\/∃ m,w= .rng m (m+1)/\¬ F m/\∃ o ∈ l,μ o=some m))
def cO3 (μ:Nat->Option Nat) (F:Nat->Prop) (v:VS) (q:S1):Prop:=
 (q.a=false/\∃ lv,v= .only lv/\∀ b ∈ lv,F b\/∃ o ∈ q.v,μ o=some b)\/(q.a=true/\∃ lv,v= .but lv/\∀ o ∈ q.v,∃ b ∈ lv,μ o=some b)
def jW (μ:Nat->Option Nat) (F:Nat->Prop) (r:K6) (q:S1):Prop:=
 ∃ vv lw nw,r=⟨vv,.only lw,nw⟩/\cO3 μ F vv q/\(∀ b ∈ lw,¬ F b/\∃ o ∈ q.w,μ o=some b)/\dK5 μ F nw q.n q.r
theorem TZ (m:Nat):∀ l:List Nat,eV m m l=true
 | []=>rfl
 |x::r=>by
  simp only[eV,TZ m r,dJ7,cW5,bA6,bA2]
  omega
theorem TY (m:Nat):∀ l:List Nat,eV m (m+1) l=true↔m ∉ l
 | []=>by simp[eV]
 |x::r=>by
  simp only[eV,aO3,TY m r,cW5,bA6,bA2,bX5,not_or]
  constructor
  ·rintro ⟨h1,h2⟩;exact ⟨by omega,h2⟩
  ·rintro ⟨h1,h2⟩;exact ⟨by omega,h2⟩
theorem cO3.out {μ:Nat->Option Nat} {F:Nat->Prop} (hd:∀ o o' b,μ o=some b->μ o'=some b->o=o') {v:VS} {q:S1} (h:cO3 μ F v q) {l w:List Nat} (hl:∀ b ∈ l,¬ F b/\∃ o ∈ w,μ o=some b) (k:q.out w=true):(VS.only l).dis v=true:=by
 rcases h with ⟨ha,lv,rfl,hv⟩|⟨ha,lv,rfl,hv⟩
 ·simp only[S1.out,ha,cS5,if_false,bG] at k
  rw[bF9,bG]
  intro x hx gl
  obtain ⟨n1,o,ho,e⟩:=hl x hx
  rcases hv x gl with hF|⟨o',gm,e'⟩
  ·exact n1 hF
  ·have:=hd o o' x e e'
   subst this
   exact k o ho gm
 ·simp only[S1.out,ha,if_true,dR] at k
  show ON l lv=true
  rw[dR]
  intro x hx
  obtain ⟨n1,o,ho,e⟩:=hl x hx
  obtain ⟨b,hb,e'⟩:=hv o (k o ho)
  rw[e] at e'
  cases e'
  exact hb
theorem jW.ok {μ:Nat->Option Nat} {F:Nat->Prop} (hd:∀ o o' b,μ o=some b->μ o'=some b->o=o') {r r':K6} {q q':S1} (h:jW μ F r q) (h':jW μ F r' q') (k:q.ok q'=true):r.ok r'=true:=by
 obtain ⟨lv,lw,ln,rfl,a1,a2,a3⟩:=h
 obtain ⟨lv',lw',ln',rfl,b1,b2,b3⟩:=h'
 simp only[S1.ok,aO3] at k
 obtain ⟨⟨k1,k2⟩,k3⟩:=k
 rw[dE7]
 simp only[aO3]
 refine ⟨⟨b1.out hd a2 k1,a1.out hd b2 k2⟩,?_⟩
 rcases a3 with ⟨_,l,rfl,a3⟩|⟨_,⟨m,rfl⟩|⟨m,rfl,a3,a4⟩⟩
 ·have:=b1.out hd a3 k3
  rcases b1 with ⟨_,lv,rfl,_⟩|⟨_,lv,rfl,_⟩<;>exact this
 ·rcases b1 with ⟨_,lv,rfl,_⟩|⟨_,lv,rfl,_⟩
  ·rw[bN4];exact TZ m _
  ·show (Nat.beq m m||_)=true
   rw[j9.2 rfl];rfl
 ·have:=b1.out hd (l:= [m]) (w:=q.n) (by intro b hb;simp only[cZ2] at hb;subst hb;exact ⟨a3,a4⟩) k3
  rcases b1 with ⟨_,lv,rfl,_⟩|⟨_,lv,rfl,_⟩
  ·rw[bN4,TY]
   rw[bF9,bG] at this
   exact this m (by simp)
  ·show (Nat.beq (m+1) m||(Nat.beq (m+1) (m+1) && p5 m lv))=true
   have h2:p5 m lv=true:=by
    have:=(dR [m] lv).1 this m (by simp)
    exact (m7 _ _).2 this
   rw[h2,j9.2 rfl];simp
theorem jW.mk3 {μ:Nat->Option Nat} {F:Nat->Prop} {lv lw ln v w n:List Nat} (h1:∀ b ∈ lv,F b\/∃ o ∈ v,μ o=some b) (h2:∀ b ∈ lw,¬ F b/\∃ o ∈ w,μ o=some b) (h3:∀ b ∈ ln,¬ F b/\∃ o ∈ n,μ o=some b):
  jW μ F ⟨.only lv,.only lw,.fix ln⟩ ⟨v,w,n,false,false⟩:=⟨_,_,_,rfl,.inl ⟨rfl,_,rfl,h1⟩,h2,.inl ⟨rfl,_,rfl,h3⟩⟩
theorem jW.mkr {μ:Nat->Option Nat} {F:Nat->Prop} {lv lw v w n:List Nat} {m:Nat} (h1:∀ b ∈ lv,F b\/∃ o ∈ v,μ o=some b) (h2:∀ b ∈ lw,¬ F b/\∃ o ∈ w,μ o=some b):
  jW μ F ⟨.only lv,.only lw,.rng m m⟩ ⟨v,w,n,false,true⟩:=⟨_,_,_,rfl,.inl ⟨rfl,_,rfl,h1⟩,h2,.inr ⟨rfl,.inl ⟨_,rfl⟩⟩⟩
theorem jW.mono {μ μ':Nat->Option Nat} {F:Nat->Prop} (h:∀ o b,μ o=some b->μ' o=some b) {r:K6} {q:S1}:jW μ F r q->jW μ' F r q:=by
 rintro ⟨lv,lw,ln,e,a1,a2,a3⟩
 refine ⟨lv,lw,ln,e,?_,fun b hb=>⟨(a2 b hb).1,let ⟨o,x,y⟩:=(a2 b hb).2;⟨o,x,h _ _ y⟩⟩,?_⟩
 ·rcases a1 with ⟨ha,l,e1,e2⟩|⟨ha,l,e1,e2⟩
  ·exact .inl ⟨ha,l,e1,fun b hb=>(e2 b hb).imp id fun ⟨o,x,y⟩=>⟨o,x,h _ _ y⟩⟩
  ·exact .inr ⟨ha,l,e1,fun o ho=>let ⟨b,x,y⟩:=e2 o ho;⟨b,x,h _ _ y⟩⟩
 ·rcases a3 with ⟨hr,l,e1,e2⟩|⟨hr,⟨m,e1⟩|⟨m,e1,e2,o,e3,e4⟩⟩
  ·exact .inl ⟨hr,l,e1,fun b hb=>⟨(e2 b hb).1,let ⟨o,x,y⟩:=(e2 b hb).2;⟨o,x,h _ _ y⟩⟩⟩
  ·exact .inr ⟨hr,.inl ⟨m,e1⟩⟩
  ·exact .inr ⟨hr,.inr ⟨m,e1,e2,o,e3,h _ _ e4⟩⟩
inductive Q3 (μ:Nat->Option Nat) (F:Nat->Prop):List K6->List S1->Prop
 |nil:Q3 μ F [] []
 |cons {r q rs qs}:jW μ F r q->Q3 μ F rs qs->Q3 μ F (r::rs) (q::qs)
theorem Q3.snoc {μ:Nat->Option Nat} {F:Nat->Prop} {r:K6} {q:S1} (h:jW μ F r q):∀ {rs:List K6} {qs:List S1},Q3 μ F rs qs->Q3 μ F (rs++ [r]) (qs++ [q])
 |_,_,.nil=> .cons h .nil
 |_,_,.cons a b=> .cons a (Q3.snoc h b)
theorem Q3.get {μ:Nat->Option Nat} {F:Nat->Prop}:∀ {rs:List K6} {qs:List S1},Q3 μ F rs qs->∀ {k:Nat} {q:S1},E1 qs k=some q->∃ r,E1 rs k=some r/\jW μ F r q
 |_,_,.nil,k,q,e=>by cases k<;>cases e
 |_,_,.cons a b,0,q,e=>by cases e;exact ⟨_,rfl,a⟩
 |_,_,.cons a b,k+1,q,e=>Q3.get b e
theorem Q3.mono {μ μ':Nat->Option Nat} {F:Nat->Prop} (h:∀ o b,μ o=some b->μ' o=some b):∀ {rs:List K6} {qs:List S1},Q3 μ F rs qs->Q3 μ' F rs qs
 |_,_,.nil=> .nil
 |_,_,.cons a b=> .cons (a.mono h) (Q3.mono h b)
theorem Q3.all {μ:Nat->Option Nat} {F:Nat->Prop} (hd:∀ o o' b,μ o=some b->μ o'=some b->o=o') {rs:List K6} {qs:List S1} (h:Q3 μ F rs qs) {r:K6} {q:S1} (hr:jW μ F r q):∀ {l:List Nat},jB qs q l=true->wN rs r l=true
 | [],_=>rfl
 |k::l,e=>by
  simp only[jB,aO3] at e
  obtain ⟨e1,e2⟩:=e
  split at e1
  case h_2=>cases e1
  rename_i p hp
  obtain ⟨r',a,b⟩:=h.get hp
  simp only[wN,aO3,a]
  exact ⟨jW.ok hd b hr e1,Q3.all hd h hr e2⟩
theorem SR.congr {C:C8} {st:n9} {h h':o7} {n p:Nat} {μ:Nat->Option Nat} {F:Nat->Prop} (hs:SR C st ⟨h,n,p⟩ μ F) (he:∀ i,i7 h' i=i7 h i):SR C st ⟨h',n,p⟩ μ F/\x8 C st ⟨h',n,p⟩ μ F=x8 C st ⟨h,n,p⟩ μ F:=by
 have hl:p9 C.E h'=p9 C.E h:=by
  funext a
  unfold p9
  split
  ·rfl
  ·rw[he]
  ·rfl
 have hw:x8 C st ⟨h',n,p⟩ μ F=x8 C st ⟨h,n,p⟩ μ F:=by
  show (⟨p9 C.E h',F,μ,st.next⟩:VW)=⟨p9 C.E h,F,μ,st.next⟩
  rw[hl]
 refine ⟨⟨fun o ob e hn=>?_,hs.wr,hs.fz,hs.inj,hs.dom,fun b hb=>?_,fun b hb=>?_,fun b hb=>?_,hs.n0,hs.own,fun b blk hb=>?_,hs.pr,hs.pb⟩,hw⟩
 ·rw[hw];simp only[he];exact hs.obj o ob e hn
 ·simp only[he];exact hs.lt b hb
 ·simp only[he];exact hs.cl b hb
 ·simp only[he];exact hs.un b hb
 ·exact hs.hb b blk (by rw[<- he];exact hb)
theorem aT2 (l:List Nat) (h:o7) (i:Nat):tQ (D8 l h) i=true->i ∈ l:=by
 intro hk
 induction h with
 |nil=>simp[D8,tQ] at hk
 |cons p r ih=>
  obtain ⟨j,b⟩:=p
  simp only[D8] at hk
  split at hk
  ·rename_i hj
   simp only[tQ] at hk
   split at hk
   ·rename_i e;rw[j9.1 e];exact (m7 _ _).1 hj
   ·exact ih hk
  ·exact ih hk
theorem qW (h:o7) (i:Nat) {b:A0} (e:i7 h i=some b):tQ h i=true:=by
 induction h with
 |nil=>cases e
 |cons p r ih=>
  obtain ⟨j,u⟩:=p
  simp only[i7] at e
  simp only[tQ]
  split
  ·rfl
  ·rename_i hj;rw[aQ4 hj] at e;exact ih e
theorem aT4 (L:List Nat) (h:o7) (b:Nat) (blk blk':A0) (n:Nat) (hb:b ∈ L) (he:i7 h b=some blk) (i:Nat):
  i7 (kS n n (D8 L h) (L6 (D8 L h) b blk')++eC L h) i=i7 (L6 h b blk') i:=by
 have gf:i7 (D8 L h) b=some blk:=by rw[A2,aO9 ((m7 _ _).2 hb)];exact he
 rw[bJ,fO]
 by_cases hi:i=b
 ·subst hi
  rw[aO9 (.inr (qW _ _ gf)),P7,gf,P7,he]
  rfl
 ·rw[cG blk' i b hi,cG blk' i b hi,A2]
  by_cases hL:i ∈ L
  ·rw[aO9 ((m7 _ _).2 hL),O4]
   have:p5 i L=true:=(m7 _ _).2 hL
   simp only[this]
   cases hg:i7 h i with
   |none=>simp
   |some u=>
    rw[aO9 (.inr (qW _ _ (by rw[A2,aO9 this];exact hg)))]
  ·have hf:p5 i L=false:=eD.2 hL
   rw[aQ4 (by rintro (h1|h1);omega;exact hL (aT2 _ _ _ h1)),O4,hf]
   simp
def bX6 (μ μ':Nat->Option Nat) (k n k' n':Nat):Prop:=(∀ o b,μ o=some b->μ' o=some b)/\(∀ o b,μ' o=some b->μ o=some b\/(k<=o/\n<=b))/\k<=k'/\n<=n'
theorem bX6.rfl (μ:Nat->Option Nat) (k n:Nat):bX6 μ μ k n k n:=⟨fun _ _ e=>e,fun _ _ e=> .inl e,aQ5 _,aQ5 _⟩
section
variable {C:C8}
theorem OG {w:VW}:∀ {ys:List V} {ds:List D} {vs:List Value},OF ys=some ds->i6 w ys vs->m6 w ds vs/\Q1 ds=true/\vs.all E0=true/\vs.length=ys.length/\ds.length=ys.length
 | [],ds,vs,h,hx=>by
  simp only[OF,aJ7] at h;subst h
  simp only[i6] at hx;subst hx
  exact ⟨by simp only[m6],rfl,rfl,rfl,rfl⟩
 | .sc x::r,ds,vs,h,hx=>by
  simp only[OF,aG4] at h
  obtain ⟨d',h1,rfl⟩:=h
  simp only[i6] at hx
  obtain ⟨u,us,rfl,y1,y2⟩:=hx
  obtain ⟨i1,i2,i3,i4,i5⟩:=OG h1 y2
  have hz:=y1.ok
  have he:=y1.scv
  subst he
  refine ⟨?_,?_,by simp[rW u hz,i3],by simp[i4],by simp[i5]⟩
  ·simp only[m6,A1];exact ⟨u,us,rfl,⟨rfl,hz⟩,i1⟩
  ·simpa [Q1,EQ] using i2
 | .agg _::_,ds,vs,h,hx=>by cases h
 | .tup _::_,ds,vs,h,hx=>by cases h
 | .dead::_,ds,vs,h,hx=>by cases h
 | .tok _::_,ds,vs,h,hx=>by cases h
theorem aZ1 {st st':n9} {s:St} {μ:Nat->Option Nat} {F:Nat->Prop} {f:D0} {fI fr0:Fr} {o:M8} {hint:Option (List Nat)} {v:V} {q:S1} {conc:List Nat} {rs:List K6}
  (h0:SR C st s μ F) (hf:FR (x8 C st s μ F) f fI) (h:aC5 C.E.old f st o hint=some (v,st',q)):
  ∃ vI h' n' r μ',V2 C.E fr0 s.prot ⟨⟨none,none,o⟩,conc,hint⟩ rs fI s.heap s.next=some (vI,h',n',r)/\SR C st' ⟨h',n',s.prot⟩ μ' F/\f9 (x8 C st' ⟨h',n',s.prot⟩ μ' F) v vI/\VW.le (x8 C st s μ F) (x8 C st' ⟨h',n',s.prot⟩ μ' F)/\
   jW μ' F r q/\bX6 μ μ' st.next s.next st'.next n':=by
 unfold aC5 at h
 split at h
 ·rename_i k a
  simp only[GO,aG3,aG4,aS6] at h
  obtain ⟨u,hu,v',hv,rfl,rfl,rfl⟩:=h
  obtain ⟨uI,a1,a2⟩:=o8 hf hu
  obtain ⟨vI,b1,b2⟩:=EB h0.hr a2 hv
  split at b1
  case h_2=>cases b1
  rename_i ad
  have gn:bK C.E (D8 (Z5 (.pointer (some ad))) s.heap) ad k=bK C.E s.heap ad k:=by
   obtain ⟨i,j,sp⟩:=ad
   cases sp with
   |none=>cases k<;>rfl
   |some sp=>
    have e:i7 (D8 [i] s.heap) i=i7 s.heap i:=by rw[A2];simp[p5]
    cases k<;>simp only[Z5,bK,p9,I9,e]
  refine ⟨vI,s.heap,s.next,⟨.only (Z5 (.pointer (some ad))),.only [],.fix []⟩,μ,?_,h0,b2,VW.le.refl _,.mk3 (fun b hb=>?_) (fun b hb=>(by cases hb)) (fun b hb=>(by cases hb)),.rfl _ _ _⟩
  ·simp only[V2,a1,aI2,d9,gn,b1,oF,aX8,B0,FD,dA2,cZ5]
  ·obtain ⟨i,j,sp⟩:=ad
   cases sp with
   |none=>simp[Z5] at hb
   |some sp=>
    simp only[Z5,cZ2] at hb
    subst hb
    cases u with
    |ptr o j'=>
     refine .inr ⟨o,by simp[dH2],?_⟩
     simp only[f9] at a2
     obtain ⟨_,b',e,q⟩:=a2
     cases e
     have gp:∃ ob,j7 st.own o=some ob/\ob.none=false:=by
      simp only[dU] at hv
      split at hv
      ·rename_i he;exact ⟨_,he,rfl⟩
      ·rename_i he;exact ⟨_,he,rfl⟩
      ·rename_i t e z l he
       refine ⟨_,he,?_⟩
       cases l with
       |nil=>
        exfalso
        cases k with
        |none=>simp[C0,E1] at hv
        |some n=>cases n<;>simp[C0,F5] at hv
       |cons=>rfl
      ·cases hv
     obtain ⟨ob,he,hn⟩:=gp
     obtain ⟨b,blk,m1,m2,_⟩:=h0.obj o ob he hn
     rw[m1,q b m1]
    |dp l o=>
     simp only[f9] at a2
     obtain ⟨a',e,hi,_⟩:=a2
     obtain ⟨ab,ao,asp⟩:=a'
     simp only[C6,Value.pointer.injEq,aJ7,Addr.mk.injEq] at e
     obtain ⟨rfl,_,rfl⟩:=e
     exact .inl hi
    |sc x=>
     have hx:=a2.ok
     have:=a2.scv
     subst this
     simp[D2] at hx
    |_=>simp[dU] at hv
 ·rename_i n a x
  split at h
  case isFalse=>
   unfold iO at h
   split at h
   case h_2=>cases h
   rename_i _ _ i k ys ha hx
   split at h
   ·rename_i t e l ho
    split at h
    case isFalse=>cases h
    rename_i hc
    simp only[aO3,bA2] at hc
    obtain ⟨⟨h8,h7⟩,g8⟩:=hc
    replace h7:=j9.1 h7
    simp only[aG4,aS6] at h
    obtain ⟨l',h9,rfl,rfl,rfl⟩:=h
    obtain ⟨aI,a1,a2⟩:=o8 hf ha
    obtain ⟨xI,x1,x2⟩:=o8 hf hx
    simp only[f9] at a2 x2
    obtain ⟨_,b',rfl,qq⟩:=a2
    obtain ⟨vs,rfl,x3⟩:=x2
    have g5:vs.all E0=true/\vs.length=ys.length:=by
     clear h7 h9 hx x1
     induction ys generalizing vs with
     |nil=>simp only[i6] at x3;subst x3;exact ⟨rfl,rfl⟩
     |cons y r ih=>
      simp only[i6] at x3
      obtain ⟨u,us,rfl,y1,y2⟩:=x3
      cases y with
      |sc z=>
       have hz:=y1.ok
       rw[y1.scv]
       obtain ⟨i1,i2⟩:=ih g8 us y2
       exact ⟨by simp[rW z hz,i1],by simp[i2]⟩
      |sl a b c=>
       obtain ⟨i1,i2⟩:=ih g8 us y2
       simp only[f9,A1] at y1
       rcases y1 with ⟨_,_,rfl,_⟩|⟨_,_,_,rfl|⟨_,_,_,_,rfl⟩⟩
       all_goals exact ⟨by simp[E0,i1],by simp[i2]⟩
      |_=>cases g8
    obtain ⟨b,blk,m1,m2,m3⟩:=h0.obj i _ ho rfl
    obtain ⟨rs',r1,r2⟩:=nE h9 m3.2.2.2 x3
    have:=qq b m1
    subst this
    obtain ⟨g1,g2,g3⟩:=h0.upd (fz:= []) (ob':= .box t e l') ho rfl h8 m1 m2 rfl (by simp) rfl rfl rfl (fun w' k1 _ _=>(⟨m3.1,m3.2.1,m3.2.2.1,r2.mono k1⟩:kB w' (.box t e l') {blk with cells:=rs'}))
    rw[N5,y9] at g1 g2
    refine ⟨.tuple #[],L6 s.heap b' {blk with cells:=rs'},s.next,⟨.only [b'],.only [b'],.fix []⟩,μ,?_,g1,by simp only[f9,i6];exact ⟨[],rfl,rfl⟩,g2,.mk3 (fun b hb=> .inr ⟨i,by simp,by simp at hb;rw[hb];exact m1⟩) (fun b hb=>⟨by simp at hb;rw[hb];exact (h0.wr i _ b' ho m1 rfl).1,i,by simp,by simp at hb;rw[hb];exact m1⟩) (fun b hb=>(by cases hb)),.rfl _ _ _⟩
    have e:i7 (D8 [b'] s.heap) b'=some blk:=by rw[A2];simp[p5,m2]
    have g0:=N3 (s:=⟨D8 [b'] s.heap,s.next,s.prot⟩) (k:=k) e g3 g5.1 r1
    simp only[V2,pP,a1,aI2,Z5,s7,x1,Value.cells,g5.2,h7,g0,aX8]
    rw[aO9 (j9.2 rfl)]
    simp only[aI2]
    rw[aO9 (j9.2 rfl),P7,e]
    rfl
   ·rename_i t e g l ho
    split at h
    case isFalse=>cases h
    rename_i hc
    simp only[aO3,bA2,cL0,BC] at hc
    obtain ⟨⟨h8,h7⟩,gg⟩:=hc
    replace h7:=j9.1 h7
    simp only[aG3,aG4,aS6] at h
    obtain ⟨ds,g9,l',h9,rfl,rfl,rfl⟩:=h
    obtain ⟨aI,a1,a2⟩:=o8 hf ha
    obtain ⟨xI,x1,x2⟩:=o8 hf hx
    simp only[f9] at a2 x2
    obtain ⟨_,b',rfl,qq⟩:=a2
    obtain ⟨vs,rfl,x3⟩:=x2
    obtain ⟨z1,z2,z3,z4,z5⟩:=OG g9 x3
    obtain ⟨b,blk,m1,m2,m3⟩:=h0.obj i _ ho rfl
    obtain ⟨rs',r1,r2⟩:=Q4 h9 m3.2.2.2 z1
    have:=qq b m1
    subst this
    obtain ⟨g1,g2,g3⟩:=h0.upd (fz:= []) (ob':= .row t e g false l') ho rfl h8 m1 m2 rfl (by simp) rfl rfl (M1 h9 (h0.own i _ ho).2 z2) (fun w' k1 _ _=>(⟨m3.1,m3.2.1,m3.2.2.1,r2.mono k1⟩:kB w' (.row t e g false l') {blk with cells:=rs'}))
    rw[N5,y9] at g1 g2
    refine ⟨.tuple #[],L6 s.heap b' {blk with cells:=rs'},s.next,⟨.only [b'],.only [b'],.fix []⟩,μ,?_,g1,by simp only[f9,i6];exact ⟨[],rfl,rfl⟩,g2,.mk3 (fun b hb=> .inr ⟨i,by simp,by simp at hb;rw[hb];exact m1⟩) (fun b hb=>⟨by simp at hb;rw[hb];exact (h0.wr i _ b' ho m1 rfl).1,i,by simp,by simp at hb;rw[hb];exact m1⟩) (fun b hb=>(by cases hb)),.rfl _ _ _⟩
    have e:i7 (D8 [b'] s.heap) b'=some blk:=by rw[A2];simp[p5,m2]
    have g0:=N3 (s:=⟨D8 [b'] s.heap,s.next,s.prot⟩) (k:=k) e g3 z3 r1
    simp only[V2,pP,a1,aI2,Z5,s7,x1,Value.cells,z4,h7,g0,aX8]
    rw[aO9 (j9.2 rfl)]
    simp only[aI2]
    rw[aO9 (j9.2 rfl),P7,e]
    rfl
   ·rename_i t e l ho
    split at h
    case isFalse=>cases h
    rename_i hc
    simp only[aO3,bA2,cL0,BC] at hc
    obtain ⟨⟨h8,h7⟩,gg⟩:=hc
    replace h7:=j9.1 h7
    simp only[aG3,aG4,aS6] at h
    obtain ⟨ds,g9,l',h9,rfl,rfl,rfl⟩:=h
    obtain ⟨aI,a1,a2⟩:=o8 hf ha
    obtain ⟨xI,x1,x2⟩:=o8 hf hx
    simp only[f9] at a2 x2
    obtain ⟨_,b',rfl,qq⟩:=a2
    obtain ⟨vs,rfl,x3⟩:=x2
    obtain ⟨z1,z2,z3,z4,z5⟩:=OG g9 x3
    have gq:=lN h9
    have g6:(Obj.gro t e false l).none=false:=by
     cases l with
     |nil=>cases ds with
      |nil=>exact absurd (show n=0 by rw[<- h7,<- z5];rfl) gg
      |cons d r=>cases k<;>simp[F8,S6] at h9
     |cons=>rfl
    have gr:(Obj.gro t e false l').none=false:=by
     cases l with
     |nil=>cases g6
     |cons d r=>cases l' with
      |nil=>simp at gq
      |cons=>rfl
    obtain ⟨b,blk,m1,m2,m3⟩:=h0.obj i _ ho g6
    obtain ⟨rs',r1,r2⟩:=Q4 h9 m3.2.2.2 z1
    have:=qq b m1
    subst this
    obtain ⟨g1,g2,g3⟩:=h0.upd (fz:= []) (ob':= .gro t e false l') ho rfl h8 m1 m2 rfl (by simp) gr rfl (M1 h9 (h0.own i _ ho).2 z2) (fun w' k1 _ _=>(⟨m3.1,m3.2.1,m3.2.2.1,r2.mono k1⟩:kB w' (.gro t e false l') {blk with cells:=rs'}))
    rw[N5,y9] at g1 g2
    refine ⟨.tuple #[],L6 s.heap b' {blk with cells:=rs'},s.next,⟨.only [b'],.only [b'],.fix []⟩,μ,?_,g1,by simp only[f9,i6];exact ⟨[],rfl,rfl⟩,g2,.mk3 (fun b hb=> .inr ⟨i,by simp,by simp at hb;rw[hb];exact m1⟩) (fun b hb=>⟨by simp at hb;rw[hb];exact (h0.wr i _ b' ho m1 rfl).1,i,by simp,by simp at hb;rw[hb];exact m1⟩) (fun b hb=>(by cases hb)),.rfl _ _ _⟩
    have e:i7 (D8 [b'] s.heap) b'=some blk:=by rw[A2];simp[p5,m2]
    have g0:=N3 (s:=⟨D8 [b'] s.heap,s.next,s.prot⟩) (k:=k) e g3 z3 r1
    simp only[V2,pP,a1,aI2,Z5,s7,x1,Value.cells,z4,h7,g0,aX8]
    rw[aO9 (j9.2 rfl)]
    simp only[aI2]
    rw[aO9 (j9.2 rfl),P7,e]
    rfl
   ·cases h
  rename_i ga
  have ga:=j9.1 ga
  subst ga
  unfold MD at h
  split at h
  case h_2=>cases h
  rename_i _ _ i k y ha hx
  obtain ⟨aI,a1,a2⟩:=o8 hf ha
  obtain ⟨xI,x1,x2⟩:=o8 hf hx
  have hy:=x2.ok
  rw[x2.scv] at x1
  simp only[f9] at a2
  obtain ⟨_,b',rfl,qq⟩:=a2
  have gs:y.cells.toList= [y]:=by cases y<;>first|rfl|(simp[D2] at hy)
  have fin:∀ {ob ob':Obj} {blk:A0} {b:Nat} {cs:List Value},j7 st.own i=some ob->ob.fz=false->μ i=some b->i7 s.heap b=some blk->st.ro<=i->ob'.none=false->ob'.fz=false->ob'.ok=true->S6 blk.cells k [y]=some cs->
    (∀ w',VW.le (x8 C st s μ F) w'->kB w' ob' {blk with cells:=cs})->v= .tup []->st'=⟨A3 st.own i ob',st.next,st.ro⟩->q=⟨[i],[i],[],false,false⟩->
    ∃ vI h' n' r μ',V2 C.E fr0 s.prot ⟨⟨none,none,.store 1 a x⟩,conc,hint⟩ rs fI s.heap s.next=some (vI,h',n',r)/\SR C st' ⟨h',n',s.prot⟩ μ' F/\f9 (x8 C st' ⟨h',n',s.prot⟩ μ' F) v vI/\VW.le (x8 C st s μ F) (x8 C st' ⟨h',n',s.prot⟩ μ' F)/\jW μ' F r q/\bX6 μ μ' st.next s.next st'.next n':=by
   intro ob ob' blk b cs e1 e2 e3 e4 e5 e6 e7 e8 e9 e10 r1 r2 r3
   subst r1 r2 r3
   have:=qq b e3
   subst this
   obtain ⟨g1,g2,g3⟩:=h0.upd (fz:= []) e1 e2 e5 e3 e4 rfl (by simp) e6 e7 e8 (fun w' k1 _ _=>e10 w' k1)
   rw[N5,y9] at g1 g2
   refine ⟨.tuple #[],L6 s.heap b' {blk with cells:=cs},s.next,⟨.only [b'],.only [b'],.fix []⟩,μ,?_,g1,by simp only[f9,i6];exact ⟨[],rfl,rfl⟩,g2,.mk3 (fun b hb=> .inr ⟨i,by simp,by simp at hb;rw[hb];exact e3⟩) (fun b hb=>⟨by simp at hb;rw[hb];exact (h0.wr i ob b' e1 e3 e2).1,i,by simp,by simp at hb;rw[hb];exact e3⟩) (fun b hb=>(by cases hb)),.rfl _ _ _⟩
   have e:i7 (D8 [b'] s.heap) b'=some blk:=by rw[A2];simp[p5,e4]
   have g5: [y].all E0=true:=by simp[rW y hy]
   have g0:=N3 (s:=⟨D8 [b'] s.heap,s.next,s.prot⟩) (k:=k) e g3 g5 e9
   simp only[V2,pP,a1,aI2,Z5,s7,x1,gs,dI7,g0,aX8]
   rw[aO9 (show Nat.beq 1 1=true from rfl)]
   simp only[aI2]
   rw[aO9 (j9.2 rfl),P7,e]
   rfl
  have g4:∀ {α:Type} (l:List α) (x:α),k<l.length->F8 l k [x]=some (l.set k x):=fun l x hk=>bM _ _ _ hk
  unfold qL at h
  split at h
  ·rename_i t e g l ho
   split at h
   case isFalse=>cases h
   rename_i hc
   simp only[aO3,bA2,bA6] at hc
   cases h
   obtain ⟨b,blk,m1,m2,m3⟩:=h0.obj i _ ho rfl
   obtain ⟨rs',r1,r2⟩:=Q4 (g4 l (D.sc y) hc.2) m3.2.2.2 (show m6 (x8 C st s μ F) [D.sc y] [y] by simp only[m6,A1];exact ⟨y,[],rfl,⟨rfl,hy⟩,rfl⟩)
   refine fin (ob':= .row t e g false (l.set k (.sc y))) ho rfl m1 m2 hc.1 rfl rfl ?_ r1 (fun w' k1=>⟨m3.1,m3.2.1,m3.2.2.1,r2.mono k1⟩) rfl rfl rfl
   exact M1 (g4 l (D.sc y) hc.2) (h0.own i _ ho).2 rfl
  ·rename_i t e l ho
   split at h
   case isFalse=>cases h
   rename_i hc
   simp only[aO3,bA2,bA6] at hc
   cases h
   obtain ⟨b,blk,m1,m2,m3⟩:=h0.obj i _ ho rfl
   obtain ⟨rs',r1,r2⟩:=nE (g4 l (V.sc y) hc.2) m3.2.2.2 (show i6 (x8 C st s μ F) [V.sc y] [y] by simp only[i6,f9];exact ⟨y,[],rfl,⟨rfl,hy⟩,rfl⟩)
   exact fin (ob':= .box t e (l.set k (.sc y))) ho rfl m1 m2 hc.1 rfl rfl rfl r1 (fun w' k1=>⟨m3.1,m3.2.1,m3.2.2.1,r2.mono k1⟩) rfl rfl rfl
  ·rename_i t e l ho
   split at h
   case isFalse=>cases h
   rename_i hc
   simp only[aO3,bA2,bA6] at hc
   cases h
   have g6:(Obj.gro t e false l).none=false:=by cases l with|nil=>simp at hc|cons=>rfl
   obtain ⟨b,blk,m1,m2,m3⟩:=h0.obj i _ ho g6
   obtain ⟨rs',r1,r2⟩:=Q4 (g4 l (D.sc y) hc.2) m3.2.2.2 (show m6 (x8 C st s μ F) [D.sc y] [y] by simp only[m6,A1];exact ⟨y,[],rfl,⟨rfl,hy⟩,rfl⟩)
   refine fin (ob':= .gro t e false (l.set k (.sc y))) ho rfl m1 m2 hc.1 ?_ rfl ?_ r1 (fun w' k1=>⟨m3.1,m3.2.1,m3.2.2.1,r2.mono k1⟩) rfl rfl rfl
   ·cases h1:l.set k (D.sc y) with
    |nil=>have:=congrArg List.length h1;simp at this;subst this;simp at hc
    |cons=>rfl
   ·exact M1 (g4 l (D.sc y) hc.2) (h0.own i _ ho).2 rfl
  ·cases h
 ·rename_i e d x
  cases h
 ·rename_i jb jc jd
  split at h
  case isFalse=>cases h
  rename_i hc
  rw[aO3] at hc
  obtain ⟨gu,gh⟩:=hc
  have hh:hint=none:=by cases hint with|none=>rfl|some _=>cases gu
  subst hh
  have gv:dM4 o=false:=by cases o<;>first|rfl|cases gh
  have gw:V2 C.E fr0 s.prot ⟨⟨none,none,o⟩,conc,none⟩ rs fI s.heap s.next=oF (.only []) s.heap s.next (d9 C.E fI ⟨s.heap,s.next,s.next⟩ o):=by
   rw[<- aU6 (h:=s.heap) gh]
   cases o<;>first|rfl|cases gv
  rw[gw]
  have go:∀ {v2:V} {ob:Option Obj},j6 C.E.old f st.own st.next o=some (v2,ob,[])->∃ vI bs,d9 C.E fI ⟨s.heap,s.next,s.next⟩ o=some (vI,bs)/\kC s.heap (x8 C st s μ F) s.next v2 ob [] vI bs:=fun e=>nP (n:=s.next) (p:=s.next) h0.hr hf e
  unfold QW at h
  split at h
  ·rename_i v2 e
   simp only[aJ7,aS6] at h
   obtain ⟨rfl,rfl,rfl⟩:=h
   obtain ⟨vI,bs,e1,e2⟩:=go e
   obtain ⟨rfl,_,e4⟩:=e2
   exact ⟨vI,s.heap,s.next,⟨.only [],.only [],.fix []⟩,μ,by simp[e1,oF,B0,FD],h0,e4,VW.le.refl _,.mk3 (fun b hb=>(by cases hb)) (fun b hb=>(by cases hb)) (fun b hb=>(by cases hb)),.rfl _ _ _⟩
  ·rename_i v2 ob e
   simp only[aJ7,aS6] at h
   obtain ⟨rfl,rfl,rfl⟩:=h
   obtain ⟨vI,bs,e1,e2⟩:=go e
   obtain ⟨q1,q2,q3,q4⟩:=h0.push e2 rfl
   rw[N5] at q1 q2 q3
   obtain ⟨_,_,_,blk,rfl,_⟩:=e2
   have hp:st.push (some ob) []=⟨(st.next,ob)::st.own,st.next+1,st.ro⟩:=by simp[n9.push,y9]
   rw[hp] at q1 q2 q3
   refine ⟨vI,B0 s.heap s.next [blk],s.next+1,⟨.only [],.only [],.fix [s.next]⟩,_,by simp[e1,oF,FD],q1,q2,q3,.mk3 (fun b hb=>(by cases hb)) (fun b hb=>(by cases hb)) (fun b hb=>?_),fun o' b e'=>?_,fun o' b e'=>?_,Nat.le_succ _,Nat.le_succ _⟩
   ·simp only[cZ2] at hb
    subst hb
    exact ⟨fun hF=>dK8 _ (h0.lt _ hF).1,st.next,by simp,by simp[TM]⟩
   ·have:=(h0.dom o' b e').2.1
    simp only[TM]
    rw[aQ4 (by omega)]
    exact e'
   ·simp only[TM] at e'
    split at e'
    ·cases e';exact .inr ⟨by omega,aQ5 _⟩
    ·exact .inl e'
  ·cases h
def bY0 (C:C8) (st st':n9) (s:St) (h':o7) (n':Nat) (μ μ':Nat->Option Nat) (F:Nat->Prop) (v:V) (vI:Value) (r:K6) (q:S1):Prop:=
 SR C st' ⟨h',n',s.prot⟩ μ' F/\f9 (x8 C st' ⟨h',n',s.prot⟩ μ' F) v vI/\VW.le (x8 C st s μ F) (x8 C st' ⟨h',n',s.prot⟩ μ' F)/\(∀ ν:Nat->Option Nat,(∀ o b,μ o=some b->ν o=some b)->(∀ o b,μ' o=some b->ν o=some b)->jW ν F r q)/\
  (∀ o b,μ' o=some b->μ o=some b\/(st.next<=o/\s.next<=b))/\st.next<=st'.next/\s.next<=n'
theorem bF4 {st st':n9} {s:St} {μ:Nat->Option Nat} {F:Nat->Prop} {f:D0} {fI fr0:Fr} {t e b:Nat} {x y:Operand} {hint:Option (List Nat)} {v:V} {q:S1} {conc:List Nat} {rs:List K6}
  (h0:SR C st s μ F) (hf:FR (x8 C st s μ F) f fI) (h:bF3 st t e b (s5 f x) (s5 f y)=some (v,st',q)):
  ∃ vI h' n' r μ',V2 C.E fr0 s.prot ⟨⟨none,none,.app t e b x y⟩,conc,hint⟩ rs fI s.heap s.next=some (vI,h',n',r)/\bY0 C st st' s h' n' μ μ' F v vI r q:=by
 cases h
theorem HE {μ:Nat->Option Nat} {F:Nat->Prop} {rs:List K6} {qs:List S1} (h:Q3 μ F rs qs):∀ conc,zW qs conc=true->NO rs conc= []
 | [],_=>rfl
 |k::r,hk=>by
  simp only[zW,aO3] at hk
  obtain ⟨h1,h2⟩:=hk
  cases hq:E1 qs k with
  |none=>rw[hq] at h1;cases h1
  |some q=>
   rw[hq] at h1
   simp only[aO3,List.isEmpty_iff,cL0] at h1
   obtain ⟨w,e1,vv,lw,nw,rfl,_,_,e4⟩:=h.get hq
   rcases e4 with ⟨_,ln,rfl,e5⟩|⟨e5,_⟩
   ·have:ln= []:=by
     cases ln with
     |nil=>rfl
     |cons b r=>
      obtain ⟨_,o,ho,_⟩:=e5 b (by simp)
      rw[h1.1] at ho
      cases ho
    subst this
    simp only[NO,e1,dJ3,HE h r h2]
   ·rw[h1.2] at e5;cases e5
theorem cY9 {st:n9} {s:St} {μ ν:Nat->Option Nat} {F:Nat->Prop} {f:D0} {fI fr0:Fr} {o:M8} {hint:Option (List Nat)} {conc:List Nat} {rs:List K6} {qs:List S1} {Q:V->n9->S1->Prop}
  (h0:SR C st s μ F) (hf:FR (x8 C st s μ F) f fI) (gx:Q3 ν F rs qs) (h:wpS C o hint conc qs f st Q):
  ∃ v st' q vI h' n' r μ',V2 C.E fr0 s.prot ⟨⟨none,none,o⟩,conc,hint⟩ rs fI s.heap s.next=some (vI,h',n',r)/\bY0 C st st' s h' n' μ μ' F v vI r q/\Q v st' q:=by
 unfold wpS at h
 split at h
 ·rename_i g xs
  obtain ⟨rfl,gy,args,v,gz,j0,hq⟩:=h
  obtain ⟨xsI,a1,a2⟩:=aZ hf gz
  obtain ⟨vI,e1,e2⟩:=j0 ⟨s.heap,s.next,s.next⟩ μ F xsI C.w0 (h0.enter C.w0) a2
  refine ⟨v,st,_,vI,s.heap,s.next,⟨.but [],.only [],.fix []⟩,μ,?_,⟨h0,e2 _,VW.le.refl _,fun ν' _ _=>⟨_,_,_,rfl,.inr ⟨rfl,_,rfl,fun z hz=>(by cases hz)⟩,fun z hz=>(by cases hz),.inl ⟨rfl,_,rfl,fun z hz=>(by cases hz)⟩⟩,fun _ _ e=> .inl e,aQ5 _,aQ5 _⟩,hq⟩
  have j1:=HE gx conc gy
  simp only[V2,MX,j1,dJ3,oK,G0,tE,d9,a1,aI2]
  rw[show C.E.pcall g xsI ⟨s.heap,s.next,s.next⟩=some (vI,[]) from e1]
  rfl
 ·rename_i je
  split at h
  case h_2=>exact h.elim
  rename_i v st' q hv
  unfold V7 at hv
  split at hv
  ·obtain ⟨vI,h',n',r,μ',k1,k2⟩:=bF4 (fr0:=fr0) (hint:=hint) (conc:=conc) (rs:=rs) h0 hf hv
   exact ⟨v,st',q,vI,h',n',r,μ',k1,k2,h⟩
  ·obtain ⟨vI,h',n',r,μ',k1,k2,k3,k4,k5,k6⟩:=aZ1 (fr0:=fr0) (conc:=conc) (rs:=rs) h0 hf hv
   exact ⟨v,st',q,vI,h',n',r,μ',k1,⟨k2,k3,k4,fun ν' _ j2=>k5.mono j2,k6.2.1,k6.2.2.1,k6.2.2.2⟩,h⟩
theorem aD1 (fr0:Fr) (p0:Nat) {F:Nat->Prop}:∀ (l:List sL) {qs:List S1} {rs:List K6} {fr:D0} {st:n9} {Q:D0->n9->Prop} {μ ν:Nat->Option Nat} {frI:Fr} {h:o7} {n:Nat},wpD C l qs fr st Q->
  SR C st ⟨h,n,p0⟩ μ F->FR (x8 C st ⟨h,n,p0⟩ μ F) fr frI->VW.le C.w0 (x8 C st ⟨h,n,p0⟩ μ F)->p0=C.p0->(∀ b,F b->C.w0.F b\/C.p0<=b)->Q3 ν F rs qs->
  (∀ o b,μ o=some b->ν o=some b)->(∀ o o' b,ν o=some b->ν o'=some b->o=o')->(∀ o b,ν o=some b->o<st.next/\b<n)->
  ∃ frI' h' n' fr' st',xG C.E fr0 p0 l rs frI h n=some (frI',h',n')/\Rl C st' fr' ⟨h',n',p0⟩ frI'/\Q fr' st'
 | [],qs,rs,fr,st,Q,μ,ν,frI,h,n,hw,h1,h2,h3,h4,h5,h6,_,_,_=>⟨frI,h,n,fr,st,rfl,⟨μ,F,h1,h2,h3,h4,h5⟩,hw⟩
 |⟨⟨d,g,op⟩,conc,hint⟩::l,qs,rs,fr,st,Q,μ,ν,frI,h,n,hw,h1,h2,h3,h4,h5,h6,n1,n2,n3=>by
  have gi:Rl C st fr ⟨h,n,p0⟩ frI:=⟨μ,F,h1,h2,h3,h4,h5⟩
  have run:(wpS C op hint conc qs (A8 (r9 ⟨d,g,op⟩) fr) st fun v st' r=>jB qs r conc=true/\wpD C l (qs++ [r]) (u7 fr d v) st' Q)->wanted (u9 (r9 ⟨d,g,op⟩) frI) g=some true->
    ∃ frI' h' n' fr' st',xG C.E fr0 p0 (⟨⟨d,g,op⟩,conc,hint⟩::l) rs frI h n=some (frI',h',n')/\Rl C st' fr' ⟨h',n',p0⟩ frI'/\Q fr' st':=by
   intro hq gb
   obtain ⟨v,st',r,vI,h',n',r',μ',e1,⟨q1,q2,q3,q4,q5,q6,q7⟩,j3,j4⟩:=cY9 (fr0:=fr0) h1 (h2.keep (r9 ⟨d,g,op⟩)) h6 hq
   let ν':Nat->Option Nat:=fun o=>match μ' o with|some b=>some b|none=>ν o
   have jf:n<=n':=q7
   have m1:∀ o b,μ' o=some b->ν' o=some b:=fun o b e=>by simp only[ν',e]
   have m2:∀ o b,ν o=some b->ν' o=some b:=fun o b e=>by
    cases hm:μ' o with
    |none=>simp only[ν',hm];exact e
    |some b'=>
     simp only[ν',hm]
     rcases q5 o b' hm with e'|⟨e',_⟩
     ·rw[n1 o b' e'] at e;exact e
     ·have:=(n3 o b e).1;omega
   have m3:∀ o b,ν' o=some b->μ' o=some b\/(μ' o=none/\ν o=some b):=fun o b e=>by
    cases hm:μ' o with
    |none=>simp only[ν',hm] at e;exact .inr ⟨rfl,e⟩
    |some b'=>simp only[ν',hm] at e;exact .inl e
   have key:∀ o o' b,μ' o=some b->ν o'=some b->o=o':=fun o o' b e e'=>by
    rcases q5 o b e with k|⟨_,k⟩
    ·exact n2 o o' b (n1 o b k) e'
    ·have:=(n3 o' b e').2;exact absurd k (by show ¬ n<=b;omega)
   have m4:∀ o o' b,ν' o=some b->ν' o'=some b->o=o':=fun o o' b e e'=>by
    rcases m3 o b e with a|⟨_,a⟩<;>rcases m3 o' b e' with a'|⟨_,a'⟩
    ·exact q1.inj o o' b a a'
    ·exact key o o' b a a'
    ·exact (key o' o b a' a).symm
    ·exact n2 o o' b a a'
   have m5:∀ o b,ν' o=some b->o<st'.next/\b<n':=fun o b e=>by
    rcases m3 o b e with a|⟨_,a⟩
    ·obtain ⟨d1,d2,_⟩:=q1.dom o b a
     exact ⟨by omega,by omega⟩
    ·have:=n3 o b a;omega
   have gj:=q4 ν' (fun o b e=>m2 o b (n1 o b e)) m1
   have gk:=Q3.mono (F:=F) m2 h6
   have j5:=Q3.all m4 gk gj j3
   obtain ⟨frI',gc,n'',fr',st'',k1,k2,k3⟩:=aD1 fr0 p0 l (rs:=rs++ [r']) (frI:=J0 frI d vI) j4 q1 ((h2.mono q3).put q2 d) (h3.trans q3) h4 h5 (Q3.snoc gj gk) m1 m4 m5
   refine ⟨frI',gc,n'',fr',st'',?_,k2,k3⟩
   simp only[xG,gb,aI2]
   rw[aY1,e1]
   simp only[aI2]
   rw[aO9 j5]
   exact k1
  have skip:wpD C l (qs++ [⟨[],[],[],false,false⟩]) (u7 fr d (.tup [])) st Q->wanted (u9 (r9 ⟨d,g,op⟩) frI) g=some false->
    ∃ frI' h' n' fr' st',xG C.E fr0 p0 (⟨⟨d,g,op⟩,conc,hint⟩::l) rs frI h n=some (frI',h',n')/\Rl C st' fr' ⟨h',n',p0⟩ frI'/\Q fr' st':=by
   intro hq gb
   obtain ⟨frI',gc,n'',fr',st'',k1,k2,k3⟩:=aD1 fr0 p0 l (rs:=rs++ [⟨.only [],.only [],.fix []⟩]) (frI:=J0 frI d (.tuple #[])) hq h1 (h2.put (by simp only[f9,i6];exact ⟨[],rfl,rfl⟩) d) h3 h4 h5 (Q3.snoc (.mk3 (fun b hb=>(by cases hb)) (fun b hb=>(by cases hb)) (fun b hb=>(by cases hb))) h6) n1 n2 n3
   refine ⟨frI',gc,n'',fr',st'',?_,k2,k3⟩
   simp only[xG,gb,aI2]
   exact k1
  simp only[wpD] at hw
  split at hw
  ·exact run hw rfl
  ·rename_i _ t want
   have ht:t ∈ r9 ⟨d,some (t,want),op⟩:=by simp[r9]
   split at hw
   ·rename_i b hb
    have g7:=(fN gi hb).1 b rfl
    split at hw
    ·rename_i gd
     exact run hw (by simp only[wanted];rw[L8 _ _ _ ht,g7];simp[gd])
    ·rename_i gd
     have ja:(b==want)=false:=by simpa using gd
     exact skip hw (by simp only[wanted];rw[L8 _ _ _ ht,g7];simp[ja])
   ·rename_i l' hb
    obtain ⟨l2,g7⟩:=(fN gi hb).2 l' rfl
    exact skip hw (by simp only[wanted];rw[L8 _ _ _ ht,g7];rfl)
   ·exact hw.elim
def gD (C:C8) (l:List sL) (rs:List S1) (tail:List l5) (ks:List Nat) (K:List KF) (fr:D0) (st:n9) (P:B9):Prop:=wpD C l rs fr st fun fr st=>gO C tail ks K fr st P
def gDV (C:C8) (r:Option (V × n9 × S1)) (conc:List Nat) (d:Option Nat) (l:List sL) (rs:List S1) (tail:List l5) (ks:List Nat) (K:List KF) (fr:D0) (P:B9):Prop:=
 match r with|some (v,st',r)=>jB rs r conc=true/\gD C l (rs++ [r]) tail ks K (u7 fr d v) st' P|none=>False
def gDG (C:C8) (v:Option V) (want:Bool) (r:Option (V × n9 × S1)) (conc:List Nat) (d:Option Nat) (l:List sL) (rs:List S1) (tail:List l5) (ks:List Nat) (K:List KF) (fr:D0) (st:n9) (P:B9):Prop:=
 match v with
 |some (.sc (.bool b))=>if b==want then gDV C r conc d l rs tail ks K fr P else gD C l (rs++ [⟨[],[],[],false,false⟩]) tail ks K (u7 fr d (.tup [])) st P
 |some (.tup _)=>gD C l (rs++ [⟨[],[],[],false,false⟩]) tail ks K (u7 fr d (.tup [])) st P
 |_=>False
variable {K:List KF} {fr:D0} {st:n9} {P:B9}
theorem j8 {pre:List sL} {tail:List l5} {ks:List Nat} (h:gD C pre [] tail ks K fr st P):gC C (.drawW pre tail ks) K fr st P:=by
 unfold gC
 simp only[OX]
 rintro frI s ⟨μ,F,h1,h2,h3,h4,h5⟩
 obtain ⟨frI',h',n',fr',st',e,g1,g2⟩:=aD1 frI s.prot pre (rs:= []) (ν:=μ) h h1 h2 h3 h4 h5 .nil (fun _ _ e=>e) h1.inj (fun o b e=>by obtain ⟨d1,d2,_⟩:=h1.dom o b e;exact ⟨by omega,by omega⟩)
 unfold gO at g2
 obtain ⟨frI2,s2,fr2,st2,e2,k1,k2⟩:=pT tail g2 g1
 refine ⟨.normal,u9 ks frI2,s2,?_,A8 ks fr2,st2,k1.keep ks,k2⟩
 simp only[C7,e,aI2]
 rw[e2]
 rfl
theorem bI7 (rs:List S1) (tail:List l5) (ks:List Nat):gD C [] rs tail ks K fr st P=gO C tail ks K fr st P:=(rfl)
def NP:M8->Bool
 | .callF _ _=>false
 |_=>true
theorem aQ1 (o:M8) (ho:NP o=true) (hint:Option (List Nat)) (conc:List Nat) (rs:List S1) (f:D0) (Q:V->n9->S1->Prop):wpS C o hint conc rs f st Q=match V7 C.E.old f st o hint with|some (v,st',r)=>Q v st' r|none=>False:=by
 cases o<;>first|rfl|cases ho
theorem aH8 (d:Option Nat) (o:M8) (ho:NP o=true) (conc:List Nat) (hint:Option (List Nat)) (l:List sL) (rs:List S1) (tail:List l5) (ks:List Nat):gD C (⟨⟨d,none,o⟩,conc,hint⟩::l) rs tail ks K fr st P=gDV C (V7 C.E.old (A8 (c7 (c8 o)) fr) st o hint) conc d l rs tail ks K fr P:=by
 unfold gD gDV
 simp only[wpD,W4,aQ1 o ho]
 rfl
theorem RZ (d:Option Nat) (t:Nat) (want:Bool) (o:M8) (ho:NP o=true) (conc:List Nat) (hint:Option (List Nat)) (l:List sL) (rs:List S1) (tail:List l5) (ks:List Nat):
  gD C (⟨⟨d,some (t,want),o⟩,conc,hint⟩::l) rs tail ks K fr st P=gDG C (j7 fr t) want (V7 C.E.old (A8 (c7 (c8 o)++ [t]) fr) st o hint) conc d l rs tail ks K fr st P:=by
 unfold gD gDG gDV
 simp only[wpD,r9,aQ1 o ho]
 rfl
theorem RX (v:V) (st':n9) (r:S1) (conc:List Nat) (d:Option Nat) (l:List sL) (rs:List S1) (tail:List l5) (ks:List Nat) (h:jB rs r conc=true):gDV C (some (v,st',r)) conc d l rs tail ks K fr P=gD C l (rs++ [r]) tail ks K (u7 fr d v) st' P:=by
 simp only[gDV,h,true_and]
theorem aH7 (b:Bool) (r:Option (V × n9 × S1)) (conc:List Nat) (d:Option Nat) (l:List sL) (rs:List S1) (tail:List l5) (ks:List Nat):gDG C (some (.sc (.bool b))) b r conc d l rs tail ks K fr st P=gDV C r conc d l rs tail ks K fr P:=by simp[gDG]
theorem bI6 (r:Option (V × n9 × S1)) (conc:List Nat) (d:Option Nat) (l:List sL) (rs:List S1) (tail:List l5) (ks:List Nat):gDG C (some (.sc (.bool true))) false r conc d l rs tail ks K fr st P=gD C l (rs++ [⟨[],[],[],false,false⟩]) tail ks K (u7 fr d (.tup [])) st P:=(rfl)
theorem bI5 (r:Option (V × n9 × S1)) (conc:List Nat) (d:Option Nat) (l:List sL) (rs:List S1) (tail:List l5) (ks:List Nat):gDG C (some (.sc (.bool false))) true r conc d l rs tail ks K fr st P=gD C l (rs++ [⟨[],[],[],false,false⟩]) tail ks K (u7 fr d (.tup [])) st P:=(rfl)
theorem aH6 (a:List V) (want:Bool) (r:Option (V × n9 × S1)) (conc:List Nat) (d:Option Nat) (l:List sL) (rs:List S1) (tail:List l5) (ks:List Nat):gDG C (some (.tup a)) want r conc d l rs tail ks K fr st P=gD C l (rs++ [⟨[],[],[],false,false⟩]) tail ks K (u7 fr d (.tup [])) st P:=(rfl)
end
section
variable {old:Nat->Nat->Option Value} {f:D0} {st:n9}
theorem aP1 (k:Option Nat) (a:Operand) (h:Option (List Nat)):V7 old f st (.load k a) h=GO old st k (s5 f a):=(rfl)
theorem XF (a x:Operand) (h:Option (List Nat)):V7 old f st (.store 1 a x) h=MD st (s5 f a) (s5 f x):=(rfl)
theorem KM (n:Nat) (hn:Nat.beq n 1=false) (a x:Operand) (h:Option (List Nat)):V7 old f st (.store n a x) h=iO st n (s5 f a) (s5 f x):=by
 show (if Nat.beq n 1 then _ else _)=_
 rw[hn];rfl
theorem aP0 (e:Nat) (a x:Operand) (h:Option (List Nat)):V7 old f st (.copy e a x) h=bF5 st e (s5 f a) (s5 f x):=(rfl)
theorem aP2 (o:M8) (ho:ZX o=true):V7 old f st o none=QW st (j6 old f st.own st.next o):=by
 cases o<;>first|rfl|cases ho
def dLd (st:n9) (v:Option V) (l:List Nat):Option (V × n9 × S1):=v.map fun v=>(v,st,⟨l,[],[],false,false⟩)
theorem QT (v:V) (l:List Nat):dLd st (some v) l=some (v,st,⟨l,[],[],false,false⟩):=(rfl)
theorem GP (k:Option Nat) (o j:Nat):GO old st k (some (.ptr o j))=dLd st (dV old st.own k (some (.ptr o j))) [o]:=(rfl)
theorem QU (k:Option Nat) (l:List D) (j:Nat):GO old st k (some (.dp l j))=dLd st (dV old st.own k (some (.dp l j))) []:=(rfl)
theorem QV (k:Option Nat) (x:Value):GO old st k (some (.sc x))=dLd st (dV old st.own k (some (.sc x))) []:=(rfl)
theorem GV (o k:Nat) (y:Value):MD st (some (.ptr o k)) (some (.sc y))=qL st o k y (j7 st.own o):=(rfl)
theorem GU (o k t e:Nat) (g:Bool) (l:List D) (y:Value) (h8:st.ro<=o) (hk:k<l.length):qL st o k y (some (.row t e g false l))=some (.tup [],⟨A3 st.own o (.row t e g false (l.set k (.sc y))),st.next,st.ro⟩,⟨[o],[o],[],false,false⟩):=by
 simp only[qL]
 rw[aO9 (by simp only[aO3,bA2,bA6];exact ⟨h8,hk⟩)]
theorem GT (o k t e:Nat) (l:List D) (y:Value) (h8:st.ro<=o) (hk:k<l.length):qL st o k y (some (.gro t e false l))=some (.tup [],⟨A3 st.own o (.gro t e false (l.set k (.sc y))),st.next,st.ro⟩,⟨[o],[o],[],false,false⟩):=by
 simp only[qL]
 rw[aO9 (by simp only[aO3,bA2,bA6];exact ⟨h8,hk⟩)]
theorem GS (o k t e:Nat) (l:List V) (y:Value) (h8:st.ro<=o) (hk:k<l.length):qL st o k y (some (.box t e l))=some (.tup [],⟨A3 st.own o (.box t e (l.set k (.sc y))),st.next,st.ro⟩,⟨[o],[o],[],false,false⟩):=by
 simp only[qL]
 rw[aO9 (by simp only[aO3,bA2,bA6];exact ⟨h8,hk⟩)]
theorem zJ (v:V):QW st (some (v,none,[]))=some (v,st,⟨[],[],[],false,false⟩):=(rfl)
theorem GQ (v:V) (ob:Obj):QW st (some (v,some ob,[]))=some (v,⟨(st.next,ob)::st.own,st.next+1,st.ro⟩,⟨[],[],[st.next],false,false⟩):=(rfl)
end
theorem qN {w:VW}:∀ {L:List D} {vs:List Value},m6 w L vs->(∀ d ∈ L,∃ x,d= .sc x)->(∀ n,B8 n vs= [])/\(∀ f,U9 f vs=vs)/\∀ w',m6 w' L vs
 | [],vs,h,_=>by simp only[m6] at h;subst h;exact ⟨fun _=>rfl,fun _=>rfl,fun w'=>by simp only[m6]⟩
 |d::r,vs,h,hs=>by
  simp only[m6] at h
  obtain ⟨v,vs',rfl,h1,h2⟩:=h
  obtain ⟨a1,a2,a3⟩:=qN h2 fun d hd=>hs d (cR3 _ hd)
  obtain ⟨x,rfl⟩:=hs d (dB6 ..)
  simp only[A1] at h1
  obtain ⟨rfl,hx⟩:=h1
  have h0:∀ f,U0 f v=v:=fun f=>VA (V0 0 v hx)
  exact ⟨fun n=>by simp[B8,V0 n v hx,a1 n],fun f=>by simp[U9,h0 f,a2 f],fun w'=>by simp only[m6];exact ⟨v,vs',rfl,by simp only[A1,hx,and_self],a3 w'⟩⟩
theorem cB7 {n0 b N c:Nat} {h:o7} {blk:A0} (hb:i7 h b=some blk) (hn:n0<=b) (hi:∀ n,B8 n blk.cells= []) (hr:∀ f,U9 f blk.cells=blk.cells):
  gc n0 h (.slice (some ⟨b,0,some 0⟩) N c)=some (.slice (some ⟨n0,0,some 0⟩) N c,[blk]):=by
 have h3:x9 n0 (.slice (some ⟨b,0,some 0⟩) N c)= [b]:=by
  simp only[x9,r6]
  rw[aO9 (by rw[bA2];exact hn)]
 have h4:lO n0 h [b]=some [b]:=by
  have:bZ n0 h 1000000 [b] []=some [b]:=by
   rw[show (1000000:Nat)=999999+1 from rfl]
   simp only[bZ,p5,cS5,if_false,hb,aI2,hi]
   rfl
  simp only[lO,this]
 have h5:C9 n0 [b] b=n0:=by
  simp only[C9,L9]
  rw[aQ4 (by rw[bA6];omega),aO9 (j9.2 rfl)]
  rfl
 unfold gc
 rw[h3]
 simp only[h4,aI2,List.reverse_singleton,bW,hb,aX8,hr]
 simp only[U0,J5,h5]
section
variable {old:Nat->Nat->Option Value} {rounds:Nat} {fns:FuncId->Option p8} {prims:FuncId->List Value->St->Option (Value × List A0)} {n:Nat} {f:FuncId} {xs:List V} {af:p8}
end
theorem yG {α:Type} {r:List (Nat × α)} {i:Nat} {v:α} (h:(j7 r i).isSome=true):j7 (A3 r i v) i=some v:=by
 obtain ⟨u,hu⟩:=dJ5.1 h
 exact hS hu
theorem XT:R7 []= .tup []:=(rfl)
section
variable {C:C8} {st:n9}
theorem JN {a a' b:V} (h:eB C st a a'):eB C st (.tup [a,b]) (.tup [a',b]):=by
 intro s μ F u h1 hv
 simp only[f9,i6] at hv ⊢
 obtain ⟨vs,rfl,v1,_,rfl,q1,v2,_,rfl,q2,rfl⟩:=hv
 exact ⟨_,rfl,v1,_,rfl,h s μ F v1 h1 q1,v2,_,rfl,q2,rfl⟩
end
theorem q8z {a b c d e f g h:Prop} (A:a) (B:b) (C:c) (D:d) (E:e) (F:f) (G:g) (H:h):a/\b/\c/\d/\e/\f/\g/\h:=⟨A,B,C,D,E,F,G,H⟩
theorem VV0:type_of% (q8z @bJ0 @bJ1 @wB @AG @jQ @oA @qV (q8z @aH3 @bI2 @aH1 @bI3 @RV @bI1 @aG9 (q8z @MT @AF @aH2 @aH0 @bJ2 @SB @bI7 (q8z @aH8 @RZ @RX @aH7 @bI6 @bI5 @aH6 (q8z @aP1 @XF @aP2 @GP @QU @QV @QT (aD5 @GV (aD5 @GU (aD5 @GT (aD5 @GS @zJ))))))))):=q8z @bJ0 @bJ1 @wB @AG @jQ @oA @qV (q8z @aH3 @bI2 @aH1 @bI3 @RV @bI1 @aG9 (q8z @MT @AF @aH2 @aH0 @bJ2 @SB @bI7 (q8z @aH8 @RZ @RX @aH7 @bI6 @bI5 @aH6 (q8z @aP1 @XF @aP2 @GP @QU @QV @QT (aD5 @GV (aD5 @GU (aD5 @GT (aD5 @GS @zJ))))))))
theorem VV1:type_of% (q8z @GQ @SD @SC @HG @SA @aH9 @wG (q8z @Bool.not_false @FN @Bool.not_false @QK @QL @KX @XQ (q8z @aP0 @KI @yM @aI0 @SE @bI9 @cL2 (q8z @cL1 @bI8 @aJ1 @bJ8 @aI9 @aJ0 @aI8 (q8z @AB @aH4 @aH5 @RW @bJ5 @aI6 @SK (aD5 @SL (aD5 @SM (aD5 @SJ (aD5 @aI5 @SF))))))))):=q8z @GQ @SD @SC @HG @SA @aH9 @wG (q8z @Bool.not_false @FN @Bool.not_false @QK @QL @KX @XQ (q8z @aP0 @KI @yM @aI0 @SE @bI9 @cL2 (q8z @cL1 @bI8 @aJ1 @bJ8 @aI9 @aJ0 @aI8 (q8z @AB @aH4 @aH5 @RW @bJ5 @aI6 @SK (aD5 @SL (aD5 @SM (aD5 @SJ (aD5 @aI5 @SF))))))))
theorem VV2:type_of% (q8z @SG @SH @aI4 @SI @bJ4 @bJ3 @aI3 (q8z @rG @AT @IK @JH @rR @CI @EF (q8z @EG @wY @XU @XV @VT @cN8 @TU (q8z @TV @aL9 @aL8 @aL7 @PZ @PY @FX (q8z @KR @KS @KQ @cN0 @VJ @VK @JI (aD5 @VI (aD5 @EA (aD5 @KV (aD5 @BJ @BL))))))))):=q8z @SG @SH @aI4 @SI @bJ4 @bJ3 @aI3 (q8z @rG @AT @IK @JH @rR @CI @EF (q8z @EG @wY @XU @XV @VT @cN8 @TU (q8z @TV @aL9 @aL8 @aL7 @PZ @PY @FX (q8z @KR @KS @KQ @cN0 @VJ @VK @JI (aD5 @VI (aD5 @EA (aD5 @KV (aD5 @BJ @BL))))))))
theorem VV3:type_of% (q8z @BK @yS @yT @mR @cK8 @cK9 @aE1 (q8z @dC @bU7 @GK @cI @HC @RP @zR (q8z @zU @HO @SS @SU @HM @RM @TL (q8z @TG @IE @TF @IF @ID @IG @RC (q8z @CV @aA7 @aN1 @UH @bO8 @UJ @UP (aD5 @aM8 (aD5 @IZ (aD5 @bO7 (aD5 @bP0 @UN))))))))):=q8z @BK @yS @yT @mR @cK8 @cK9 @aE1 (q8z @dC @bU7 @GK @cI @HC @RP @zR (q8z @zU @HO @SS @SU @HM @RM @TL (q8z @TG @IE @TF @IF @ID @IG @RC (q8z @CV @aA7 @aN1 @UH @bO8 @UJ @UP (aD5 @aM8 (aD5 @IZ (aD5 @bO7 (aD5 @bP0 @UN))))))))
theorem VV4:type_of% (q8z @cM5 @UK @Bool.not_false @bO6 @BY @aN3 @bP2 (q8z @Bool.not_false @aM3 @Bool.not_false @aM6 @aM5 @IY @aM7 (q8z @aA6 @aM9 @Bool.not_false @bP1 @cM4 @bO5 @aM2 (q8z @UM @wI @BF @BG @UQ @CS @JO (q8z @US @DL @DN @BX @qT @qU @UO (aD5 @vV (aD5 @iS (aD5 @cE (aD5 @aU @mK))))))))):=q8z @cM5 @UK @Bool.not_false @bO6 @BY @aN3 @bP2 (q8z @Bool.not_false @aM3 @Bool.not_false @aM6 @aM5 @IY @aM7 (q8z @aA6 @aM9 @Bool.not_false @bP1 @cM4 @bO5 @aM2 (q8z @UM @wI @BF @BG @UQ @CS @JO (q8z @US @DL @DN @BX @qT @qU @UO (aD5 @vV (aD5 @iS (aD5 @cE (aD5 @aU @mK))))))))
theorem VV5:type_of% (q8z @eE @cD @vR @bM3 @bM2 @UR @aM1 (q8z @aN4 @YD @bX3 @aQ2 @aQ3 @DE @WH (q8z @WI @DB @DA @JV @wU @XD @PN (q8z @XE @KJ @KK @yL @vH @vE @qD (q8z @uQ @WG @sB @JU @JT @uR @JS (aD5 @JR (aD5 @vK (aD5 @WF (aD5 @aO6 @bT6))))))))):=q8z @eE @cD @vR @bM3 @bM2 @UR @aM1 (q8z @aN4 @YD @bX3 @aQ2 @aQ3 @DE @WH (q8z @WI @DB @DA @JV @wU @XD @PN (q8z @XE @KJ @KK @yL @vH @vE @qD (q8z @uQ @WG @sB @JU @JT @uR @JS (aD5 @JR (aD5 @vK (aD5 @WF (aD5 @aO6 @bT6))))))))
theorem VV6:type_of% (q8z @bT7 @bT8 @WW @WU @aG8 @bH8 @bI0 (q8z @bH9 @k9 @xT @aK8 @KW @aP7 @aP6 (q8z @aK0 @aK1 @aK2 @aK3 @IW @kF @n5 (q8z @PO @yP @yO @yN @mM @yG @XT (q8z @PP @M5 @PH @cW @FK @vD @zY (aD5 @kU (aD5 @RU (aD5 @RT (aD5 @RS @GZ))))))))):=q8z @bT7 @bT8 @WW @WU @aG8 @bH8 @bI0 (q8z @bH9 @k9 @xT @aK8 @KW @aP7 @aP6 (q8z @aK0 @aK1 @aK2 @aK3 @IW @kF @n5 (q8z @PO @yP @yO @yN @mM @yG @XT (q8z @PP @M5 @PH @cW @FK @vD @zY (aD5 @kU (aD5 @RU (aD5 @RT (aD5 @RS @GZ))))))))
theorem VV7:type_of% (q8z @vQ @aP5 @aP3 @XG @aP4 @XL @XK (q8z @XJ @XI @DW @XH @XM @zE @KP (q8z @HS @KN @KO @sH @vO @oJ @XO (q8z @KU @DY @KT @DZ @XN @IX @BV (q8z @cZ @fH @cK1 @cK0 @cJ9 @cJ8 @cJ7 (aD5 @cK3 (aD5 @cJ6 (aD5 @cK4 (aD5 @cK2 @FP))))))))):=q8z @vQ @aP5 @aP3 @XG @aP4 @XL @XK (q8z @XJ @XI @DW @XH @XM @zE @KP (q8z @HS @KN @KO @sH @vO @oJ @XO (q8z @KU @DY @KT @DZ @XN @IX @BV (q8z @cZ @fH @cK1 @cK0 @cJ9 @cJ8 @cJ7 (aD5 @cK3 (aD5 @cJ6 (aD5 @cK4 (aD5 @cK2 @FP))))))))
theorem VV8:type_of% (q8z @FQ @YO @bC4 @vA @cN6 @cN5 @wK (aD5 @II (aD5 @IH (aD5 @AW @AV)))):=q8z @FQ @YO @bC4 @vA @cN6 @cN5 @wK (aD5 @II (aD5 @IH (aD5 @AW @AV)))
theorem VV9:type_of% (q8z @cS5 @dK1 @Bool.not_false @cJ2 @cZ9 @cZ5 @dK7 (q8z @Int.add_sub_cancel @dJ7 @dE6 @Bool.and_self @true_or @not_true_eq_false @not_false_eq_true (q8z @decide_true @decide_false @aX8 @aI2 @dI5 @dJ3 @cJ1 (q8z @dL9 @dC9 @Option.toList_some.{0} @Option.toList_none.{0} @if_true.{1} @if_false.{1} @bK2 (q8z @dA2 @dI7 @eq_self.{1} @dD7 @dL5 @aJ7 @aS6 (aD5 @List.set_cons_zero.{0} @List.set_cons_succ.{0})))))):=q8z @cS5 @dK1 @Bool.not_false @cJ2 @cZ9 @cZ5 @dK7 (q8z @Int.add_sub_cancel @dJ7 @dE6 @Bool.and_self @true_or @not_true_eq_false @not_false_eq_true (q8z @decide_true @decide_false @aX8 @aI2 @dI5 @dJ3 @cJ1 (q8z @dL9 @dC9 @Option.toList_some.{0} @Option.toList_none.{0} @if_true.{1} @if_false.{1} @bK2 (q8z @dA2 @dI7 @eq_self.{1} @dD7 @dL5 @aJ7 @aS6 (aD5 @List.set_cons_zero.{0} @List.set_cons_succ.{0})))))
theorem d6:type_of% (aD5 (@cZ0) (aD5 (@List.length_set.{0}) (aD5 (@dL6) (aD5 (@bK2) (aD5 (@dA2) (@bA4)))))):=aD5 (@cZ0) (aD5 (@List.length_set.{0}) (aD5 (@dL6) (aD5 (@bK2) (aD5 (@dA2) (@bA4)))))
def f8 (d:Nat) (p:M8):l5:=⟨some d,none,p⟩
def d8 (d k:Nat):l5:=⟨some d,none,.mov (.tmp k)⟩
def H3 (d k j:Nat):l5:=⟨some d,none,.ext (.tmp k) j⟩
def I2 (d f k:Nat):l5:=⟨some d,none,.callF f [.tmp k]⟩
def x7 (d k:Nat):l5:=⟨some d,none,.load none (.tmp k)⟩
def s8 (d j k:Nat):l5:=⟨some d,none,.fldA j (.tmp k)⟩
def q9 (n:Int):Operand:=.const (.int .i64 n)
def E8 (n:Int):Operand:=.const (.int .u8 n)
def D5 (d g:Nat) (p:M8):l5:=⟨some d,some (g,false),p⟩
def v6 (d g:Nat) (p:M8):l5:=⟨some d,some (g,true),p⟩
def p6 (d k:Nat) (b:BinOp) (x:Operand):l5:=⟨some d,none,.bin b (.tmp k) x⟩
def z7 (d:Nat) (n:Int):l5:=⟨some d,none,.mov (.const (.int .i64 n))⟩
def zT (k:Nat):Operand:=.tmp k
def zt:Operand:=.const (.bool true)
def zf:Operand:=.const (.bool false)
def zS (l:List l5) (ks:List Nat) (c:AC):AC:=.seq (.ops l ks) c
def zC (k:Nat) (a b:AC):AC:=.cond (.tmp k) a b
def z1z (d n k:Nat):l5:=⟨some d,none,.load (some n) (.tmp k)⟩
def z2z (d c a:Nat):l5:=⟨some d,none,.pick (.tmp c) (.tmp a) (.const (.bool false))⟩
def z3z (d c a:Nat):l5:=⟨some d,none,.pick (.tmp c) (.const (.bool true)) (.tmp a)⟩
def z4z (d e x i:Nat):l5:=⟨some d,none,.idxS e (.tmp x) (.tmp i)⟩
def z5z (d:Nat):l5:=⟨some d,none,.mov (.const (.slice none 0 0))⟩
def z6z (d k:Nat):l5:=⟨some d,none,.len false (.tmp k)⟩
def z7z (d g k:Nat):l5:=⟨some d,some (g,true),.mov (.tmp k)⟩
def z8z (d g k:Nat):l5:=⟨some d,some (g,false),.mov (.tmp k)⟩
def z9z (d t k:Nat):l5:=⟨some d,none,.box t (.tmp k)⟩
def y0z (d g k:Nat):l5:=⟨some d,some (g,true),.load none (.tmp k)⟩
def y1z (d g j k:Nat):l5:=⟨some d,some (g,true),.fldA j (.tmp k)⟩
def y2z (d t e y a b:Nat):l5:=⟨some d,none,.app t e y (.tmp a) (.tmp b)⟩
def y3z (d k:Nat):l5:=⟨some d,none,.len true (.tmp k)⟩
theorem cz1z:(∀ v r,c7 (.const v::r)=c7 r)/\(∀ v r,c7 (.global v::r)=c7 r)/\(∀ v r,c7 (.func v::r)=c7 r):=⟨fun _ _=>rfl,fun _ _=>rfl,fun _ _=>rfl⟩
theorem WA:type_of% (q8z @z1z.eq_1 @z2z.eq_1 @z3z.eq_1 @z4z.eq_1 @z5z.eq_1 @z6z.eq_1 @z7z.eq_1 (q8z @z8z.eq_1 @z9z.eq_1 @y0z.eq_1 @y1z.eq_1 @y2z.eq_1 @y3z.eq_1 @c7.eq_1 (q8z @c7.eq_2 @cz1z @c8.eq_1 @c8.eq_2 @c8.eq_3 @c8.eq_4 @c8.eq_5 (q8z @c8.eq_6 @c8.eq_7 @c8.eq_8 @c8.eq_9 @c8.eq_10 @c8.eq_11 @c8.eq_12 (q8z @c8.eq_13 @c8.eq_14 @c8.eq_15 @c8.eq_16 @c8.eq_17 @c8.eq_18 @c8.eq_19 (q8z @c8.eq_20 @c8.eq_21 @c8.eq_22 @c8.eq_23 @c8.eq_24 @c8.eq_25 @c8.eq_26 (q8z @c8.eq_27 @c8.eq_28 @c8.eq_29 @c8.eq_30 @c8.eq_31 @c8.eq_32 @c8.eq_33 (q8z @c8.eq_34 @c8.eq_35 @c8.eq_36 @c8.eq_37 @c8.eq_38 @c8.eq_39 @c8.eq_40 (q8z @c8.eq_41 @c8.eq_42 @c8.eq_43 @c8.eq_44 @c8.eq_45 @c8.eq_46 @c8.eq_47 (q8z @c8.eq_48 @c8.eq_49 @c8.eq_50 @List.replicate.eq_1.{0} @List.replicate.eq_2.{0} @zT.eq_1 @zt.eq_1 (q8z @zf.eq_1 @zS.eq_1 @zC.eq_1 @f8.eq_1 @d8.eq_1 @H3.eq_1 @I2.eq_1 (q8z @x7.eq_1 @s8.eq_1 @q9.eq_1 @E8.eq_1 @D5.eq_1 @v6.eq_1 @p6.eq_1 (q8z @z7.eq_1 VV0 VV1 VV2 VV3 VV4 VV5 (q8z VV6 VV7 VV8 VV9 @aK7.eq_1 @P4.eq_1 @P4.eq_2 (aD5 @scL.eq_1 (aD5 @pN.eq_1 (aD5 @X9.eq_1 @X9.eq_2))))))))))))))))):=q8z @z1z.eq_1 @z2z.eq_1 @z3z.eq_1 @z4z.eq_1 @z5z.eq_1 @z6z.eq_1 @z7z.eq_1 (q8z @z8z.eq_1 @z9z.eq_1 @y0z.eq_1 @y1z.eq_1 @y2z.eq_1 @y3z.eq_1 @c7.eq_1 (q8z @c7.eq_2 @cz1z @c8.eq_1 @c8.eq_2 @c8.eq_3 @c8.eq_4 @c8.eq_5 (q8z @c8.eq_6 @c8.eq_7 @c8.eq_8 @c8.eq_9 @c8.eq_10 @c8.eq_11 @c8.eq_12 (q8z @c8.eq_13 @c8.eq_14 @c8.eq_15 @c8.eq_16 @c8.eq_17 @c8.eq_18 @c8.eq_19 (q8z @c8.eq_20 @c8.eq_21 @c8.eq_22 @c8.eq_23 @c8.eq_24 @c8.eq_25 @c8.eq_26 (q8z @c8.eq_27 @c8.eq_28 @c8.eq_29 @c8.eq_30 @c8.eq_31 @c8.eq_32 @c8.eq_33 (q8z @c8.eq_34 @c8.eq_35 @c8.eq_36 @c8.eq_37 @c8.eq_38 @c8.eq_39 @c8.eq_40 (q8z @c8.eq_41 @c8.eq_42 @c8.eq_43 @c8.eq_44 @c8.eq_45 @c8.eq_46 @c8.eq_47 (q8z @c8.eq_48 @c8.eq_49 @c8.eq_50 @List.replicate.eq_1.{0} @List.replicate.eq_2.{0} @zT.eq_1 @zt.eq_1 (q8z @zf.eq_1 @zS.eq_1 @zC.eq_1 @f8.eq_1 @d8.eq_1 @H3.eq_1 @I2.eq_1 (q8z @x7.eq_1 @s8.eq_1 @q9.eq_1 @E8.eq_1 @D5.eq_1 @v6.eq_1 @p6.eq_1 (q8z @z7.eq_1 VV0 VV1 VV2 VV3 VV4 VV5 (q8z VV6 VV7 VV8 VV9 @aK7.eq_1 @P4.eq_1 @P4.eq_2 (aD5 @scL.eq_1 (aD5 @pN.eq_1 (aD5 @X9.eq_1 @X9.eq_2))))))))))))))))
theorem z0z {P:Prop} (h:P:=by first|omega|assumption|exact g9|exact O rfl|exact O trivial|exact b9 _ (fun _=>rfl) _|(simp only[d6]<;>omega)):P:=h
def Z0 (c:Nat):Obj:= .row c 0 true false []
def isN:Ex->Bool
 | .normal=>true
 |_=>false
def EC:D0->List Nat->List V->Option D0
 |fr,[],[]=>some fr
 |fr,t::ts,v::vs=>EC (oQ fr t v) ts vs
 |_,_,_=>none
def sO (E:G3) (a b:AC) (fr:D0) (ps:List Nat) (o:Nat) (xs:List V) (st:n9) (Q:V->n9->Prop):Prop:=
 st.ro<=o/\j7 st.own o=some (Z0 0)/\o<st.next/\∃ fr1,EC fr ps xs=some fr1/\∀ C:C8,C.E=E->C.w0.nx=st.next->
  gC C a [] fr1 st fun ex fr2 st2=>ex= .normal/\st2.ro<=o/\j7 st2.own o=some (Z0 0)/\
   gC C b [] fr2 ⟨A3 st2.own o (Z0 1),st2.next,st2.ro⟩ fun ex _ st3=>st3.ro<=o/\j7 st3.own o=some (Z0 1)/\∃ st4,K7 C [] ⟨A3 st3.own o (Z0 (kJ ex)),st3.next,st3.ro⟩ [] st4/\Q (.sc (.bool (isN ex))) st4
section
variable {C:C8} {st:n9} {s:St} {μ:Nat->Option Nat} {F:Nat->Prop}
theorem O3:∀ H:E9,D7 [] H=H
 | []=>rfl
 |(j,o)::r=>by rw[kU,O3 r];rfl
theorem SR.recd (h:SR C st s μ F) {o c:Nat} (ho:j7 st.own o=some (Z0 c)):∃ b blk,μ o=some b/\i7 s.heap b=some blk/\blk.esz=0/\blk.grow=true/\blk.ty=c:=by
 obtain ⟨b,blk,h1,h2,h3⟩:=h.obj o _ ho rfl
 exact ⟨b,blk,h1,h2,h3.1,h3.2.1,h3.2.2.1⟩
theorem tR {hp:o7} {b c:Nat} {blk:A0} (h:i7 hp b=some blk) (h1:blk.esz=0) (h2:blk.grow=true) (h3:blk.ty=c):oZ hp b c=true:=by
 unfold oZ
 rw[h]
 simp[h1,h2,h3]
theorem SR.setRec (h:SR C st s μ F) {o b c:Nat} (ho:j7 st.own o=some (Z0 c)) (h6:st.ro<=o) (hμ:μ o=some b) (c':Nat):
  SR C ⟨A3 st.own o (Z0 c'),st.next,st.ro⟩ {s with heap:=L6 s.heap b (D6 c')} μ F/\VW.le (x8 C st s μ F) (x8 C ⟨A3 st.own o (Z0 c'),st.next,st.ro⟩ {s with heap:=L6 s.heap b (D6 c')} μ F)/\s.prot<=b:=by
 obtain ⟨b',blk,h1,h2,_⟩:=h.recd ho
 rw[hμ] at h1;cases h1
 have:=h.upd (fz:= []) ho rfl h6 hμ h2 rfl (by simp) (ob':=Z0 c') (blk':=D6 c') rfl rfl rfl (fun w' _ _ _=>⟨rfl,rfl,rfl,by simp only[m6,D6]⟩)
 rw[O3,N5] at this
 exact this
theorem aG7 {w:VW}:∀ (ps:List Nat) (xs:List V) (fr fr1:D0) (frI:Fr) (xsI:List Value),EC fr ps xs=some fr1->FR w fr frI->i6 w xs xsI->∃ frI1,vZ frI ps xsI=some frI1/\FR w fr1 frI1
 | [],[],fr,fr1,frI,xsI,h,hf,hx=>by
  simp only[EC,aJ7] at h;subst h
  simp only[i6] at hx;subst hx
  exact ⟨frI,rfl,hf⟩
 | [],_::_,fr,fr1,frI,xsI,h,hf,hx=>by simp[EC] at h
 |_::_,[],fr,fr1,frI,xsI,h,hf,hx=>by simp[EC] at h
 |t::ps,v::xs,fr,fr1,frI,xsI,h,hf,hx=>by
  simp only[i6] at hx
  obtain ⟨vI,xsI',rfl,h1,h2⟩:=hx
  simp only[EC] at h
  exact aG7 ps xs _ fr1 _ xsI' h (hf.put h1 (some t)) h2
theorem yJ {E E':G3} (h:E'.old=E.old):p9 E'=p9 E:=by
 funext hp a
 rw[LI,LI,h]
theorem cS7 {E:G3} {C':C8} {a b:AC} {fr:D0} {frI:Fr} {ps:List Nat} {o d0:Nat} {xs:List V} {st:n9} {Q:V->n9->Prop} (hy:C'.E.yld d0=lU (C7 E a) (C7 E b) frI ps d0)
  (hE:p9 C'.E=p9 E) (g8:FR C'.w0 fr frI) (hμ:C'.w0.μ o=some d0) (ho:o<C'.w0.nx) (hr:sO E a b fr ps o xs st Q):aD4 C' o xs st Q:=by
 intro s μ F xsI d hs hx ha hp hF hl
 obtain ⟨h6,h7,hm,fr1,g9,ga⟩:=hr
 obtain ⟨b0,blk,hb,hc,z1,z2,z3⟩:=hs.recd h7
 have gb:b0=d0:=by
  have:=ha.μ o b0 ho hb
  rw[hμ] at this
  exact (Option.some.inj this).symm
 subst gb
 have hd:d=b0:=by
  simp only[f9] at hl
  obtain ⟨_,b',e,q⟩:=hl
  cases e
  exact q b0 hb
 subst hd
 let C2:C8:=⟨E,s.next,s.heap,C'.U,x8 C' st s μ F,C'.p0⟩
 have ht:p9 C2.E=p9 C'.E:=hE.symm
 have he:∀ (st:n9) (s:St) (μ:Nat->Option Nat) (F:Nat->Prop),x8 C2 st s μ F=x8 C' st s μ F:=fun st s μ F=>by
  show (⟨p9 C2.E s.heap,F,μ,st.next⟩:VW)=⟨p9 C'.E s.heap,F,μ,st.next⟩
  rw[ht]
 have gc:SR C2 st s μ F:=hs.env2 ht (aQ5 _) fun x=>⟨fun hu=>⟨by have:=(hs.un x hu).1;have:=hs.n0;show x<s.next;omega,rfl⟩,fun hu=>hu⟩
 obtain ⟨frI1,gd,gf⟩:=aG7 ps xs fr fr1 frI xsI g9 (g8.mono ha) hx
 have hi:Rl C2 st fr1 s frI1:=⟨μ,F,gc,by rw[he];exact gf,by rw[he];exact VW.le.refl _,hp,fun b hb=> .inl hb⟩
 obtain ⟨ex,frI2,s2,e1,fr2,st2,gg,rfl,gh,hv,h2⟩:=eZ a (ga C2 rfl rfl) frI1 s hi
 obtain ⟨μ2,F2,g1,g2,g3,g4,g5⟩:=gg
 obtain ⟨b2,blk2,hz,gi,y1,y2,y3⟩:=g1.recd hv
 have gj:b2=d:=by
  have:=g3.μ o b2 hm hz
  exact Option.some.inj (this.symm.trans hb)
 subst gj
 obtain ⟨k1,k2,k3⟩:=g1.setRec hv gh hz 1
 obtain ⟨ex3,frI3,s3,e3,fr3,st3,gk,gl,g0,st4,hW,hq⟩:=eZ b h2 frI2 _ ⟨μ2,F2,k1,g2.mono k2,g3.trans k2,g4,g5⟩
 obtain ⟨μ3,F3,m1,m2,m3,m4,m5⟩:=gk
 obtain ⟨b3,blk3,g6,gm,x1,x2,x3⟩:=m1.recd g0
 have gn:b3=b2:=by
  have:=m3.μ o b3 hm g6
  exact Option.some.inj (this.symm.trans hb)
 subst gn
 obtain ⟨j1,j2,j3⟩:=m1.setRec g0 gl g6 (kJ ex3)
 have go:s.prot<=b3:=(hs.wr o _ b3 h7 hb rfl).2 h6|>.1
 obtain ⟨μ4,F4,w1,_,w3,w4,w5⟩:=hW {s3 with heap:=L6 s3.heap b3 (D6 (kJ ex3))} [] ⟨μ3,F3,j1,fun t v e=>(by cases e),m3.trans j2,m4,m5⟩
 have j1':SR C' st4 {s3 with heap:=L6 s3.heap b3 (D6 (kJ ex3))} μ4 F4:=w1.env2 hE (by have:=hs.n0;show C'.n0<=s3.next;have h9:s.next<=s3.next:=w1.n0;omega) fun x=>⟨fun hu=>⟨(hs.un x hu).1,by rw[(w1.un x hu).2];exact (hs.un x hu).2⟩,fun hu=>hu⟩
 refine ⟨_,_,hq,.bool (isN ex3),{s3 with heap:=L6 s3.heap b3 (D6 (kJ ex3))},μ4,F4,?_,j1',.mksc rfl,?_,?_,?_,fun x hx=>?_⟩
 ·rw[hy]
  unfold lU
  rw[aO9 (by rw[aO3,bA2];exact ⟨go,tR hc z1 z2 z3⟩),gd]
  have e1':C7 E a frI1 s=some (Ex.normal,frI2,s2):=e1
  simp only[aI2,e1']
  rw[aO9 (tR gi y1 y2 y3)]
  rw[show C7 E b frI2 {s2 with heap:=L6 s2.heap b3 (D6 1)}=some (ex3,frI3,s3) from e3]
  simp only[aI2]
  rw[aO9 (tR gm x1 x2 x3)]
  cases ex3<;>rfl
 ·rw[he] at w3
  exact w3
 ·show s3.prot=s.prot
  rw[m4,hp]
 ·show s.next<=s3.next
  exact w1.n0
 ·rcases w5 x hx with h|h
  ·exact .inl h
  ·exact .inr (by rw[hp];exact h)
end
section
variable {C:C8} {st:n9} {old:Nat->Nat->Option Value} {rounds:Nat} {fns:FuncId->Option p8} {prims:FuncId->List Value->St->Option (Value × List A0)} {n:Nat} {f:FuncId} {xs:List V} {af:p8} {fr:D0} {P:B9} {K:List KF}
theorem sW:∀ (n:Nat) (y:Yh),(W0 old rounds fns prims n y).old=old
 |0,_=>rfl
 |n+1,_=>rfl
theorem LU:∀ (n:Nat) (y:Yh),(W0 old rounds fns prims n y).rounds=rounds
 |0,_=>rfl
 |n+1,_=>rfl
theorem QI:∀ (n:Nat) (y:Yh),(W0 old rounds fns prims n y).pcall=(t8 old rounds fns prims n).pcall
 |0,_=>rfl
 |n+1,_=>rfl
theorem SP {g:Operand} {ps ks:List Nat} {a b:AC} {fr':D0} {st':n9} (hw:K7 C fr st fr' st') (h:gC C (.rangeF g ps ks a b) K fr' st' P):gC C (.rangeF g ps ks a b) K fr st P:=
 fun frI s hr=>h frI s (hw s frI hr)
theorem MU {y:Yh} {g:Operand} {ps ks:List Nat} {a b:AC} {gV:V} (hC:C.E=W0 old rounds fns prims (n+1) y) (hg:s5 fr g=some gV) (gp:Z2 gV [.tok st.next]=some (f,xs)) (hf:fns f=some af) (gz:xs.length<=af.n) (g7:af.res= []) (j0:st.ro<=st.next)
  (h:∀ C':C8,C'.w0.nx=st.next+1->C'.E.rounds=rounds->C'.E.pcall=(t8 old rounds fns prims n).pcall->C'.E.old=old->(∀ xs st' Q,sO C.E a b (A8 ks fr) ps st.next xs st' Q->aD4 C' st.next xs st' Q)->
   gC C' af.code [] (P4 0 xs) ⟨(st.next,Z0 0)::st.own,st.next+1,st.ro⟩ fun ex _ st'=>(∀ i,ex ≠ .exit i)/\st'.ro<=st.next/\∃ c e,j7 st'.own st.next=some (Z0 c)/\bK9 c=some e/\gK C K e (A8 ks fr) ⟨J6 st.next st'.own,st'.next,st'.ro⟩ P):
  gC C (.rangeF g ps ks a b) K fr st P:=by
 show DV C (C7 C.E (.rangeF g ps ks a b)) fr st fun ex fr st=>gK C K ex fr st P
 intro frI s hi
 obtain ⟨μ,F,h1,h2,h3,h4,h5⟩:=hi
 obtain ⟨gI,b1,b2⟩:=o8 h2 hg
 have hP:kC s.heap (x8 C st s μ F) s.next (.tok st.next) (some (Z0 0)) [] (.chan (some s.next)) [D6 0]:=
  ⟨rfl,rfl,rfl,D6 0,rfl,fun w' ha _ _ hn hμ=>⟨by simp only[f9];exact ⟨hn,s.next,rfl,fun b hb=>Option.some.inj (hμ.symm.trans hb)⟩,rfl,rfl,rfl,by simp only[m6,D6]⟩⟩
 obtain ⟨k1,k2,k3,_⟩:=h1.push hP rfl
 rw[N5] at k1 k2 k3
 have gq:st.push (some (Z0 0)) []=⟨(st.next,Z0 0)::st.own,st.next+1,st.ro⟩:=by simp only[n9.push,O3]
 rw[gq] at k1 k2 k3
 obtain ⟨st1,h8⟩:∃ st1:n9,st1=⟨(st.next,Z0 0)::st.own,st.next+1,st.ro⟩:=⟨_,rfl⟩
 obtain ⟨μ1,hμ1⟩:∃ μ1,μ1=TM μ st s (some (Z0 0)):=⟨_,rfl⟩
 rw[<- h8,<- hμ1] at k1 k2 k3
 obtain ⟨xsI,c1,c2⟩:=sZ (vsI:= [.chan (some s.next)]) gp (b2.mono k3) (by simp only[i6];exact ⟨_,_,rfl,k2,rfl⟩)
 let h0:=lU (C7 C.E a) (C7 C.E b) (u9 ks frI) ps s.next
 let E':=W0 old rounds fns prims n (XC y s.next h0)
 have hE:p9 E'=p9 C.E:=yJ (by rw[hC];exact (sW _ _).trans (sW _ _).symm)
 let C':C8:=⟨E',(s.push [D6 0]).next,(s.push [D6 0]).heap,C.U,x8 C st1 (s.push [D6 0]) μ1 F,C.p0⟩
 have hw:∀ (st:n9) (s:St) (μ:Nat->Option Nat) (F:Nat->Prop),x8 C' st s μ F=x8 C st s μ F:=fun st s μ F=>by
  show (⟨p9 E' s.heap,F,μ,st.next⟩:VW)=⟨p9 C.E s.heap,F,μ,st.next⟩
  rw[hE]
 have gr:SR C' st1 (s.push [D6 0]) μ1 F:=k1.env2 hE (aQ5 _) fun x=>⟨fun hu=>⟨by have:=(k1.un x hu).1;have:=k1.n0;show x<(s.push [D6 0]).next;omega,rfl⟩,fun hu=>hu⟩
 have hμd:μ1 st.next=some s.next:=by rw[hμ1];simp[TM]
 have gs:E'.yld s.next=h0:=by
  have:∀ (n:Nat) (y:Yh),(W0 old rounds fns prims n y).yld=y:=fun n y=>by cases n<;>rfl
  show (W0 old rounds fns prims n (XC y s.next h0)).yld s.next=h0
  rw[this]
  unfold XC
  rw[aO9 (j9.2 rfl)]
 have gu:FR C'.w0 (A8 ks fr) (u9 ks frI):=(h2.mono k3).keep ks
 have gv:st1.next=st.next+1:=by rw[h8]
 have hh:=h C' gv (LU _ _) (QI _ _) (sW _ _) fun xs st' Q hr=>cS7 (C':=C') gs hE gu hμd (show st.next<st1.next by omega) hr
 rw[<- h8] at hh
 obtain ⟨ex,frI',s',e1,fr',st',hR,gw,h6,c,ej,h7,hj,hk⟩:=eZ af.code hh (cX 0 xsI) (s.push [D6 0]) ⟨μ1,F,gr,by rw[hw];exact bR 0 c2,by rw[hw];exact VW.le.refl _,h4,fun b hb=> .inl hb⟩
 obtain ⟨μ2,F2,g1,g2,g3,g4,g5⟩:=hR
 obtain ⟨b0,blk,hb,hc,z1,z2,z3⟩:=g1.recd h7
 have gx:b0=s.next:=by
  have:=g3.μ st.next b0 (by show st.next<st1.next;rw[h8];exact Nat.lt_succ_self _) hb
  exact Option.some.inj (this.symm.trans hμd)
 subst gx
 have g1C:SR C st' s' μ2 F2:=g1.env2 hE.symm (by have h9:(s.push [D6 0]).next<=s'.next:=g1.n0;have:=k1.n0;omega) fun x=>⟨fun hu=>⟨(k1.un x hu).1,by rw[(g1.un x hu).2];exact (k1.un x hu).2⟩,fun hu=>hu⟩
 obtain ⟨d1,d2,_⟩:=g1C.del h7 rfl h6 hb
 have gy:body E' af xsI (s.push [D6 0])=some (.tuple #[],s'):=by
  unfold body
  rw[aO9 (by rw[bA2,c2.length];omega)]
  rw[show C7 E' af.code (cX 0 xsI) (s.push [D6 0])=some (ex,frI',s') from e1]
  cases ex with
  |exit i=>exact absurd rfl (gw i)
  |normal=>simp only[aI2,g7,bO,aX8];rfl
  |ret=>simp only[aI2,g7,bO,aX8];rfl
 rw[hw] at g3
 refine ⟨ej,u9 ks frI,{s' with heap:=J1 s'.heap s.next},?_,A8 ks fr,_,⟨_,F2,d1,?_,?_,?_,fun b hb=>?_⟩,hk⟩
 ·simp only[C7,b1,aI2,c1]
  have:C.E.rcall s.next h0 f xsI (s.push [D6 0])=some (.tuple #[],s'):=by
   rw[hC]
   show (fns f).bind (fun af=>body (W0 old rounds fns prims n (XC y s.next h0)) af xsI (s.push [D6 0]))=_
   rw[hf]
   exact gy
  rw[show C.E.rcall s.next (lU (C7 C.E a) (C7 C.E b) (u9 ks frI) ps s.next) f xsI (s.push [D6 0])=some (.tuple #[],s') from this]
  simp only[aI2,hc]
  rw[aO9 (by simp[z1,z2]),z3,hj]
  rfl
 ·exact ((h2.mono k3).mono (g3.trans d2)).keep ks
 ·exact (h3.trans k3).trans (g3.trans d2)
 ·show s'.prot=C.p0
  rw[g4]
 ·rcases g5 b hb with h|h
  ·exact h5 b h
  ·exact .inr h
end
end Go.Itp
namespace Go.Itp
open Go.RowKit (Below)
set_option linter.unusedSimpArgs false
theorem cT1 {P:Program} (hh:P.follows .mixedOrders=true) {fns:FuncId->Option p8} {prims:FuncId->List Value->St->Option (Value × List A0)} (h9:LE P fns) {old:Nat->Nat->Option Value} {w:World} (hj:∀ b o v,old b o=some v->∃ c,w.cell? ⟨b,o,none⟩=some c/\∀ μ,tr μ v=some c) (hk:X2 P prims w) {f:FuncId} {af:p8} (hf:fns f=some af) {xs:List Value}
  (hl:B8 0 xs= []) (n:Nat) {v:Value} {s':St} (h:body (t8 old B6 fns prims n) af xs St.empty=some (v,s')) (hv:x9 0 v= []):
  Calls P f xs.toArray w fun e w'=>e= .returned v/\Below w.heap.size w w':=by
 have hr:G5 (AA w w 0) (fun _=>none) St.empty w:=
  ⟨Below.refl _ _,O1.refl _ _,aQ5 _,fun i b hi=>by simp[St.empty,i7] at hi,fun i j b c l m hi=>by simp[St.empty,i7] at hi,by simp[St.empty],fun i hi=>by simp[St.empty] at hi,fun _ _=>rfl,rfl⟩
 have hE:v8 P (t8 old B6 fns prims n) w (fun _=>none):=bE2 hh hj h9 hk n _
 refine (xL (G:=AA w w 0) hE (h9 f af hf) h hr (jI xs hl)).mono fun e w' ⟨c,he,μ',_,h2,h3⟩=>?_
 rw[uT v hv] at h2
 cases h2
 exact ⟨he,h3.b0⟩
section
variable {H:Type} {enc:TypeId × Value->H} {P:Program} {w:World} {base:Nat} {spare:Nat->Bool} {h7:Bool} {fuel:Nat} {t e:TypeId} {cs:List Value} {d:DataW H} {ps:List MemPlace}
def dD2 {H:Type}:DataW H->Value
 | .lit (.int k z)=> .int k z
 |_=> .nilIface
def bF6 {H:Type}:DataW H->List Value
 | .agg l=>l.map dD2
 |_=> []
theorem aU1 {n:Nat} {k:IntKind} (ht:P.underlying t=some (.array n e)) (he:P.underlying e=some (.int k)) (hc:P.cellsOf e=1) (ho:P.cellsOf t=n) (hd:DataW.trod enc P w base spare h7 fuel t cs=some (d,ps)):cs=bF6 d:=by
 obtain ⟨xs,m,rfl,hx,hp,hn,h6⟩:=DataW.trod_array ht hd
 simp only[aS6] at hx
 obtain ⟨rfl,_⟩:=hx
 rw[ho] at hp
 apply List.ext_getElem?
 intro i
 simp only[bF6,List.map_map]
 by_cases hi:i<n
 ·have h1:=h6 i hi
  obtain ⟨x,hg⟩:∃ x,xs[i]? =some x:=⟨xs[i]'(by omega),by simp[show i<xs.length by omega]⟩
  rw[hg] at h1
  obtain ⟨z,e1,e2,_⟩:=DataW.trod_int he h1
  rw[hc,dK7] at e1
  have e3:cs[i]? =some (.int k z):=by
   have:=congrArg (fun l:List Value=>l[0]?) e1
   simpa using this
  rw[e3,dK9,hg]
  simp[e2,dD2]
 ·rw[cZ1 (by omega),cZ1 (by simp;omega)]
theorem OS {l:Lit} (h:DataW.trod enc P w base spare h7 fuel t []=some (.lit l,ps)):False:=by
 cases fuel with
 |zero=>simp[DataW.trod] at h
 |succ fuel=>
  unfold DataW.trod at h
  split at h<;>simp_all
theorem OR {l:Lit} {r:List (DataW H)} (h:DataW.trod enc P w base spare h7 fuel t []=some (.agg (.lit l::r),ps)):False:=by
 have fin:∀ (xs:List (DataW H × List MemPlace)) (n:Nat),((.agg (.lit l::r),ps):DataW H × List MemPlace)=(.agg (xs.map (·.1)),xs.flatMap (·.2))->xs.length=n->(∀ i,i<n->∃ m u,DataW.trod enc P w base spare h7 m u []=xs[i]?)->False:=by
  intro xs n hx hn h6
  have hx:=congrArg Prod.fst hx
  simp only[DataW.agg.injEq] at hx
  cases xs with
  |nil=>simp at hx
  |cons x xs=>
   obtain ⟨m,u,h0⟩:=h6 0 (by simp at hn;omega)
   obtain ⟨y,q⟩:=x
   simp only[cJ1,dI9] at hx
   rw[<- hx.1] at h0
   exact OS h0
 cases hu:P.underlying t with
 |none=>
  cases fuel with
  |zero=>simp[DataW.trod] at h
  |succ fuel=>unfold DataW.trod at h;rw[hu] at h;cases h
 |some d=>
  cases d with
  |struct fs=>
   obtain ⟨xs,n,_,hx,_,hn,h6⟩:=DataW.trod_struct hu h
   refine fin xs fs.size hx hn fun i hi=>?_
   have:=h6 i fs[i] (by simp[hi])
   simp only[List.drop_nil,List.take_nil] at this
   exact ⟨_,_,this⟩
  |array n e=>
   obtain ⟨xs,m,_,hx,_,hn,h6⟩:=DataW.trod_array hu h
   refine fin xs n hx hn fun i hi=>?_
   have:=h6 i hi
   simp only[List.drop_nil,List.take_nil] at this
   exact ⟨_,_,this⟩
  |_=>
   cases fuel with
   |zero=>simp[DataW.trod] at h
   |succ fuel=>unfold DataW.trod at h;rw[hu] at h;cases h
theorem bU2 {d':DataW H} (h:DataW.trod enc P w base spare h7 fuel t cs=some (.ptr d',ps)):∃ e a cs' n q,P.underlying t=some (.pointer e)/\cs= [.pointer (some a)]/\w.cells? base a (P.cellsOf e)=some cs'/\DataW.trod enc P w base spare h7 n e cs'=some (d',q):=by
 cases fuel with
 |zero=>simp[DataW.trod] at h
 |succ fuel=>
  unfold DataW.trod at h
  split at h<;>try (simp_all;done)
  ·rename_i e a hs
   simp only[aG4,aG3,aS6,DataW.ptr.injEq] at h
   obtain ⟨⟨y,q⟩,⟨cs',h1,h2⟩,rfl,_⟩:=h
   exact ⟨e,a,cs',fuel,q,hs,rfl,h1,h2⟩
  ·exfalso
   simp only at h
   split at h
   ·simp only[aG4,aG3,aS6] at h
    obtain ⟨_,_,_,_,h,_⟩:=h
    cases h
   ·cases h
  ·exfalso
   split at h
   ·cases h
   ·simp only[aG4,aS6] at h
    obtain ⟨_,_,h,_⟩:=h
    cases h
   ·cases h
  ·exfalso
   split at h
   ·split at h
    ·simp only[aG3] at h
     obtain ⟨_,_,h⟩:=h
     split at h
     ·simp only[aJ7,aS6] at h
      exact absurd h.1 (fun e=>by cases e)
     ·cases h
    ·cases h
   ·cases h
theorem ZR {ms:Array (String × TypeId)} {name:String} {l:Lit} {r:List (DataW H)} (ht:P.underlying t=some (.interface ms)) (hd:DataW.trod enc P w base spare false fuel t cs=some (.iface name (.ptr (.agg (.lit l::r))),ps))
  (hq:∀ u v,cs= [.iface u v]->∃ r b',Value.okWide P w r b' u v):
  ∃ u b o,cs= [.iface u (.pointer (some ⟨b,o,none⟩))]:=by
 cases fuel with
 |zero=>simp[DataW.trod] at hd
 |succ fuel=>
  unfold DataW.trod at hd
  rw[ht] at hd
  split at hd<;>try (simp_all;done)
  ·rename_i u v hy
   obtain ⟨r',b',hv⟩:=hq u v rfl
   split at hd
   ·simp at hd
   ·simp only[aG4,aS6,DataW.iface.injEq] at hd
    obtain ⟨⟨y,q⟩,h1,⟨_,rfl⟩,_⟩:=hd
    obtain ⟨e,a,cs',n,q',k1,k2,k3,k4⟩:=bU2 h1
    have hw:v= .pointer (some a):=by
     simp only[Value.okWide,k1] at hv
     cases v<;>simp_all [Value.cells,Cell.okWide,Cell.ok]
    have hz:P.cellsOf e ≠ 0:=by
     intro h0
     rw[h0] at k3
     unfold World.cells? at k3
     split at k3
     ·simp at k3
      subst k3
      exact OR k4
     ·cases k3
    have h8:a.spot=none:=by
     unfold World.cells? at k3
     split at k3
     ·obtain ⟨m,hm⟩:∃ m,P.cellsOf e=m+1:=⟨P.cellsOf e - 1,by omega⟩
      rw[hm,List.range_succ_eq_map] at k3
      simp only[List.mapM_cons,Option.bind_eq_bind,aG3] at k3
      obtain ⟨c,hc,_⟩:=k3
      unfold World.cell? at hc
      split at hc
      ·split at hc
       ·cases hc
       ·rename_i hs
        cases h8:a.spot with
        |none=>rfl
        |some k=>
         exfalso
         apply hs
         simp[Addr.add,h8]
      ·cases hc
     ·cases k3
    obtain ⟨b,o,sp⟩:=a
    simp only at h8
    subst h8
    exact ⟨u,b,o,by rw[hw]⟩
   ·cases hd
theorem AQ {P:Program} {w:World} {n:String} {d:DataW Unit}:∀ (l:List (String × DataW Unit)) (ps:List MemPlace),DataW.LaidVars P w l ps->∀ i:Nat,l[i]? =some (n,d)->
  ∃ g t cs fuel p,P.globalNamed n=some g/\(P.globals[g]?).map (·.type)=some t/\w.var? P n=some cs/\DataW.trod (fun _=>()) P w 0 (fun _=>true) false fuel t cs.toList=some (d,p)/\∀ x ∈ MemPlace.row ⟨g,0,none⟩ cs.size,x ∈ ps
 | [],ps,h,i,hi=>by simp at hi
 |(m,e)::r,ps,h,i,hi=>by
  obtain ⟨g,t,cs,fuel,p,q,h1,h2,h3,h4,h5,rfl⟩:=h
  cases i with
  |zero=>
   simp at hi
   obtain ⟨rfl,rfl⟩:=hi
   exact ⟨g,t,cs,fuel,p,h1,h2,h3,h4,fun x hx=>by simp[hx]⟩
  |succ i=>
   simp at hi
   obtain ⟨g',t',cs',fuel',p',k1,k2,k3,k4,k5⟩:=AQ r q h5 i hi
   exact ⟨g',t',cs',fuel',p',k1,k2,k3,k4,fun x hx=>by simp[k5 x hx]⟩
end
def bB1 (old:Nat->Nat->Option Value) (w:World):Prop:=∀ b o v,old b o=some v->w.cell? ⟨b,o,none⟩=some v/\x9 0 v= []
theorem bB1.below {old:Nat->Nat->Option Value} {w w':World} {n:Nat} (h:bB1 old w) (hn:w.heap.size<=n) (hb:Below n w w'):bB1 old w':=fun b o v e=>by
 obtain ⟨h1,h2⟩:=h b o v e
 exact ⟨by rw[hb.cell (dJ0 (World.block_lt_of_cell? _ _ h1) hn)];exact h1,h2⟩
def cJ (a b:FuncId->List Value->St->Option (Value × List A0)) (f:FuncId) (xs:List Value) (s:St):Option (Value × List A0):=
 match a f xs s with
 |some r=>some r
 |none=>b f xs s
theorem uD {P:Program} {a b:FuncId->List Value->St->Option (Value × List A0)} {w0:World} (ha:X2 P a w0) (hb:X2 P b w0):X2 P (cJ a b) w0:=by
 intro f xs s v bs h
 unfold cJ at h
 split at h
 ·rename_i r hr
  cases h
  exact ha f xs s v bs hr
 ·exact hb f xs s v bs h
end Go.Itp
namespace Go.Itp
open Go.RowKit (Below)
open Go.Sort (grow)
set_option linter.unusedSimpArgs false
section
variable {P:Program} {G:A7} {μ:Mu} {s:St} {w:World}
def yA (P:Program) (f:FuncId):Prop:=∃ fn c,P.funcs[f]? =some fn/\fn.body=some c/\(fn.name== "runtime.NumGoroutine")=false
theorem eH {f:FuncId} {args:Array Value} {v c:Value} (h0:yA P f) (hr:G5 G μ s w) (hc:Calls P f args w fun e w'=>e= .returned c/\Below w.heap.size w w') (hv:tr μ v=some c):O0 P f args w (y8 G μ s w v []):=by
 obtain ⟨fn,cd,h1,h2,h3⟩:=h0
 exact M9 h1 h2 h3 (hc.mono fun e w' ⟨he,hb⟩=>⟨c,he,μ,Y9.refl s μ,hv,by rw[lL];exact hr.below hb,hb⟩)
theorem YP (w:World) (k:Nat) (os:Array Go.Obj):Below w.heap.size w (grow (w.drewN k) os):=
 ⟨rfl,rfl,rfl,by simp[grow,World.drewN],fun i hi=>by simp only[grow,World.drewN];rw[Array.getElem?_append_left hi]⟩
theorem aY4 {name:String} {k:IntKind} {zs:List Int} {w0 w:World} (h:Lib.TabIs P w0 name k zs) (hb:Below w0.heap.size w0 w):Lib.TabIs P w name k zs:=by
 unfold Lib.TabIs World.var? at h ⊢
 cases hg:P.globalNamed name with
 |none=>rw[hg] at h;cases h
 |some g=>
  rw[hg] at h
  simp only[aI2] at h ⊢
  rcases cL3 g w0.heap.size with h'|h'
  ·rw[hb.block g h'];exact h
  ·rw[cZ3 h'] at h;cases h
end
def TC (f0:FuncId) (f:FuncId) (xs:List Value) (_:St):Option (Value × List A0):=
 if Nat.beq f f0 then (match xs with
  | [.int .i64 n]=>if -9223372036854775808<=n/\n<=9223372036854775807 then some (.string ⟨(Lib.itoa n).toArray⟩,[]) else none
  |_=>none) else none
theorem bK6 {P:Program} {f0:FuncId} {w0:World} (h0:yA P f0) (ht:Lib.TabIs P w0 "internal/strconv.uint64pow10" .u64 Lib.pow10Tab)
  (hc:∀ (n:Int) (_: -9223372036854775808<=n) (_:n<=9223372036854775807) (w:World) (_:Lib.TabIs P w "internal/strconv.uint64pow10" .u64 Lib.pow10Tab),
   Calls P f0 #[.int .i64 n] w fun e w'=>e= .returned (.string ⟨(Lib.itoa n).toArray⟩)/\∃ k os,w'=grow (w.drewN k) os):X2 P (TC f0) w0:=by
 intro f xs s v bs h G μ w cs hG hr hx
 unfold TC at h
 split at h
 case isFalse=>cases h
 rename_i hf
 have:=j9.1 hf
 subst this
 split at h
 case h_2=>cases h
 rename_i n
 split at h
 case isFalse=>cases h
 rename_i hn
 simp only[aJ7,aS6] at h
 obtain ⟨rfl,rfl⟩:=h
 simp[G4,tr] at hx
 subst hx
 refine eH h0 hr ((hc n hn.1 hn.2 w (aY4 ht (by rw[<- hG];exact hr.b0))).mono fun e w' ⟨he,k,os,hw⟩=>⟨he,?_⟩) rfl
 rw[hw]
 exact YP w k os
end Go.Itp
namespace Go.Itp
open Go.RowKit (Below)
set_option linter.unusedVariables false
set_option linter.constructorNameAsVariable false
set_option linter.unusedSimpArgs false
section
variable {C:C8} {st:n9} {fr:D0}
theorem R9 (ρ:List (Nat × Nat)) (k:Nat) {fr':D0} {st':n9} (hb:C.w0.nx<=k) (hr:st.ro=0) (hk:IT C.w0.nx 0 k ρ=true) (hf:xE ρ fr=fr') (hs:(⟨uG ρ st.own ρ,k,0⟩:n9)=st'):K7 C fr st fr' st':=by
 have:=EJ (C:=C) (st:=st) ρ k (fr:=fr) hb (by rw[hr];exact hk)
 rw[hr,hs,hf] at this
 exact this
end
theorem KL {P:Program} {name:String} {cs:Array Value} {w0 w:World} (h:w0.var? P name=some cs) (hb:Below w0.heap.size w0 w):w.var? P name=some cs:=by
 unfold World.var? at h ⊢
 cases hg:P.globalNamed name with
 |none=>rw[hg] at h;cases h
 |some g=>
  rw[hg] at h
  simp only[aI2] at h ⊢
  rcases cL3 g w0.heap.size with h'|h'
  ·rw[hb.block g h'];exact h
  ·rw[cZ3 h'] at h;cases h
def X1 (P:Program) (w:World) (name:String):Option Value:=
 match w.var? P name with
 |some ⟨[.iface t v]⟩=>if D2 (.iface t v) then some (.iface t v) else none
 |_=>none
theorem tK {P:Program} {w:World} {name:String} {e:Value} (h:X1 P w name=some e):∃ t v,e= .iface t v/\D2 e=true/\w.var? P name=some #[.iface t v]:=by
 unfold X1 at h
 split at h
 case h_2=>cases h
 rename_i t v hv
 split at h
 case isFalse=>cases h
 rename_i hs
 cases h
 exact ⟨t,v,rfl,hs,hv⟩
def vJ (f0:FuncId) (tn tN:TypeId) (es er:Option Value) (f:FuncId) (xs:List Value) (s:St):Option (Value × List A0):=
 if Nat.beq f f0 then (match xs with
  | [.string b]=>if b.size<=281474976710656 then (match Lib.atoiAll b.data.toList with
   | .ok v=>some (.tuple ⟨[.int .i64 v,.nilIface]⟩,[])
   | .range=>er.bind fun e=>some (.tuple ⟨[.int .i64 (Lib.atoiSat b.data.toList),.iface tn (.pointer (some ⟨s.next,0,some 0⟩))]⟩,[⟨[.string ⟨#[65,116,111,105]⟩,.string b,e],1,false,tN⟩])
   |_=>es.bind fun e=>some (.tuple ⟨[.int .i64 0,.iface tn (.pointer (some ⟨s.next,0,some 0⟩))]⟩,[⟨[.string ⟨#[65,116,111,105]⟩,.string b,e],1,false,tN⟩])) else none
  |_=>none) else none
section
variable {P:Program} {G:A7} {μ:Mu} {s:St} {w:World}
theorem zN {f:FuncId} {args:Array Value} {k:Int} {tn tN:TypeId} {b:ByteArray} {t:TypeId} {p:Value} (hs:D2 (.iface t p)=true) (h4:yA P f) (hr:G5 G μ s w)
  (hc:Calls P f args w fun e w'=>∃ N,e= .returned (.tuple #[.int .i64 k,.iface tn (.pointer (some ⟨N,0,none⟩))])/\w.heap.size<=N/\w'.heap[N]? =some (.cells #[.string ⟨#[65,116,111,105]⟩,.string b,.iface t p] tN (0,0))/\Below w.heap.size w w'):
  O0 P f args w (y8 G μ s w (.tuple ⟨[.int .i64 k,.iface tn (.pointer (some ⟨s.next,0,some 0⟩))]⟩) [⟨[.string ⟨#[65,116,111,105]⟩,.string b,.iface t p],1,false,tN⟩]):=by
 obtain ⟨fn,cd,h1,h2,h3⟩:=h4
 refine M9 h1 h2 h3 (hc.mono fun e w' ⟨N,he,hN,hw,hb⟩=>⟨_,he,?_⟩)
 have h8:∀ (j:Nat) (v:Value),([.string ⟨#[65,116,111,105]⟩,.string b,.iface t p]:List Value)[j]? =some v->D2 v=true:=by
  intro j v h
  rcases j with _|_|_|j
  ·simp at h;subst h;rfl
  ·simp at h;subst h;rfl
  ·simp at h;subst h;exact hs
  ·simp at h
 obtain ⟨k1,k2⟩:=(hr.below hb).adopt (w':=w') ⟨N,0,0,none⟩ ⟨[.string ⟨#[65,116,111,105]⟩,.string b,.iface t p],1,false,tN⟩ ⟨#[.string ⟨#[65,116,111,105]⟩,.string b,.iface t p],(0,0),.inr ⟨Nat.one_ne_zero,hw⟩,(fun o _ _=>by simp),fun j v hj=>⟨v,by rw[cZ9,<- hj];simp,uT v (V0 0 v (h8 j v hj))⟩,by simp,(fun h=>by cases h),fun _=>rfl⟩
  (dJ2 hr.size0 hN) (fun hk=>by have:=hr.fxlt hk;simp only at this;omega) (fun i c m e hm=>by
   obtain ⟨m',h6,_,_,h9⟩:=hr.blk i c e
   rw[hm] at h6;cases h6
   have:=h9.lt
   simp only;omega) rfl rfl rfl (aQ5 _) (fun k _ _=>rfl)
 exact ⟨_,Y9.push k2,by simp[tr,G4,U2,rY,Mu.set_same],k1,hb⟩
theorem wM (x:Lib.NumEnd Int) (h1:∀ v,x ≠ .ok v) (h2:x ≠ .range):x=Lib.atoiAll []:=by
 cases x
 ·exact absurd rfl (h1 _)
 ·rfl
 ·exact absurd rfl h2
theorem bB7 {f0:FuncId} {tn tN u8:TypeId} {w0:World} (h4:yA P f0)
  (h1:∀ (s:ByteArray) (_:s.size<=9223372036854775806) (v:Int) (_:Lib.atoiAll s.data.toList= .ok v) (w:World),Calls P f0 #[.string s] w fun e w'=>e= .returned (.tuple #[.int .i64 v,.nilIface])/\(w'=w\/∃ t,w'=Lib.bytesWorld w u8 t))
  (h2:∀ (s:ByteArray) (_:s.size<=281474976710656) (_:Lib.atoiAll s.data.toList=Lib.atoiAll []) (tp:TypeId) (p:Value) (w:World) (_:w.var? P "strconv.ErrSyntax"=some #[.iface tp p]),
   Calls P f0 #[.string s] w fun e w'=>∃ N,e= .returned (.tuple #[.int .i64 0,.iface tn (.pointer (some ⟨N,0,none⟩))])/\w.heap.size<=N/\w'.heap[N]? =some (.cells #[.string ⟨#[65,116,111,105]⟩,.string s,.iface tp p] tN (0,0))/\Below w.heap.size w w')
  (h3:∀ (s:ByteArray) (_:s.size<=281474976710656) (_:Lib.atoiAll s.data.toList= .range) (tp:TypeId) (p:Value) (w:World) (_:w.var? P "strconv.ErrRange"=some #[.iface tp p]),
   Calls P f0 #[.string s] w fun e w'=>∃ N,e= .returned (.tuple #[.int .i64 (Lib.atoiSat s.data.toList),.iface tn (.pointer (some ⟨N,0,none⟩))])/\w.heap.size<=N/\w'.heap[N]? =some (.cells #[.string ⟨#[65,116,111,105]⟩,.string s,.iface tp p] tN (0,0))/\Below w.heap.size w w'):
  X2 P (vJ f0 tn tN (X1 P w0 "strconv.ErrSyntax") (X1 P w0 "strconv.ErrRange")) w0:=by
 intro f xs s v bs h G μ w cs hG hr hx
 unfold vJ at h
 split at h
 case isFalse=>cases h
 rename_i hf
 have:=j9.1 hf
 subst this
 split at h
 case h_2=>cases h
 rename_i b
 split at h
 case isFalse=>cases h
 rename_i h5
 simp[G4,tr] at hx
 subst hx
 have h7:Below w0.heap.size w0 w:=by rw[<- hG];exact hr.b0
 split at h
 ·rename_i n hn
  simp only[aJ7,aS6] at h
  obtain ⟨rfl,rfl⟩:=h
  refine eH h4 hr ((h1 b (by omega) n hn w).mono fun e w' ⟨he,hw⟩=>⟨he,?_⟩) rfl
  rcases hw with rfl|⟨t,rfl⟩
  ·exact Below.refl _ _
  ·exact Lib.bytesWorld_below _ _ _
 ·rename_i hn
  simp only[aG3] at h
  obtain ⟨e,he,h⟩:=h
  obtain ⟨t,p,rfl,hs,hv⟩:=tK he
  simp only[aJ7,aS6] at h
  obtain ⟨rfl,rfl⟩:=h
  exact zN hs h4 hr (h3 b h5 hn t p w (KL hv h7))
 ·rename_i hd hh
  simp only[aG3] at h
  obtain ⟨e,he,h⟩:=h
  obtain ⟨t,p,rfl,hs,hv⟩:=tK he
  simp only[aJ7,aS6] at h
  obtain ⟨rfl,rfl⟩:=h
  exact zN hs h4 hr (h2 b h5 (wM _ hd hh) t p w (KL hv h7))
end
section
variable {old:Nat->Nat->Option Value} {rounds:Nat} {fns:FuncId->Option p8} {prims:FuncId->List Value->St->Option (Value × List A0)} {n:Nat} {f:FuncId}
theorem sI {w:VW}:∀ {ys:List Value} {xsI:List Value},i6 w (ys.map V.sc) xsI->xsI=ys
 | [],xsI,h=>by simpa [i6] using h
 |y::r,xsI,h=>by
  simp only[cJ1,i6] at h
  obtain ⟨v,vs',rfl,h1,h2⟩:=h
  rw[h1.scv,sI h2]
theorem aA4 {st:n9} {ys:List Value} {v:Value} (h:∀ s,prims f ys s=some (v,[])) (hv:D2 v=true):E7 (t8 old rounds fns prims (n+1)) f st (ys.map V.sc) (.sc v):=by
 intro s μ F xsI w0 hl hx
 rw[sI hx]
 refine ⟨v,?_,fun w=> .mksc hv⟩
 simp only[K0,h]
theorem EE {w:VW}:∀ {ys:List Value},(∀ y ∈ ys,D2 y=true)->i6 w (ys.map V.sc) ys
 | [],_=>by simp only[dL9,i6]
 |y::r,h=>by
  simp only[cJ1,i6]
  exact ⟨y,r,rfl,.mksc (h y dB6),EE fun z hz=>h z (cR3 _ hz)⟩
theorem cV3 {st:n9} {ys:List Value} {rs:List Value} (h:∀ s,prims f ys s=some (.tuple ⟨rs⟩,[])) (hv:∀ y ∈ rs,D2 y=true):E7 (t8 old rounds fns prims (n+1)) f st (ys.map V.sc) (.tup (rs.map V.sc)):=by
 intro s μ F xsI w0 hl hx
 rw[sI hx]
 refine ⟨.tuple ⟨rs⟩,?_,fun w=>?_⟩
 ·simp only[K0,h]
 ·simp only[f9]
  exact ⟨rs,rfl,EE hv⟩
theorem bO2 {ys:List Value} {cs:List Value} {k:Int} {tn tN:TypeId} (h:∀ s,prims f ys s=some (.tuple ⟨[.int .i64 k,.iface tn (.pointer (some ⟨s.next,0,some 0⟩))]⟩,[⟨cs,1,false,tN⟩])) (hc:∀ y ∈ cs,D2 y=true):
  m0 (t8 old rounds fns prims (n+1)) f (ys.map V.sc) (.tup [.sc (.int .i64 k),.ifc tn (.ptr 0 0)]) ⟨[(0,.box tN 1 (cs.map V.sc))],1,0⟩:=by
 intro s F xsI hF hb hx
 rw[sI hx]
 have hP:kC s.heap (x8 (C1 (t8 old rounds fns prims (n+1)) s (YG (t8 old rounds fns prims (n+1)) s.heap F)) ⟨[],0,0⟩ ⟨s.heap,s.next,s.next⟩ (fun _=>none) F) s.next (.ptr 0 0) (some (.box tN 1 (cs.map V.sc))) [] (.pointer (some ⟨s.next,0,some 0⟩)) [⟨cs,1,false,tN⟩]:=
  ⟨rfl,rfl,rfl,_,rfl,fun w' g4 _ _ hn hμ=>⟨by simp only[f9];exact ⟨hn,s.next,rfl,fun b hb=>Option.some.inj (hμ.symm.trans hb)⟩,rfl,rfl,rfl,EE hc⟩⟩
 obtain ⟨k1,k2,k3,k4⟩:=(SR.start (E:=t8 old rounds fns prims (n+1)) (w0:=YG (t8 old rounds fns prims (n+1)) s.heap F) hF hb).push hP rfl
 refine ⟨_,_,_,_,by simp only[K0,h];rfl,k1,?_,fun b hb=>?_,fun b hb=>?_,fun h=>(by simp[A4,nZ] at h)⟩
 ·simp only[f9,i6]
  refine ⟨_,rfl,_,_,rfl,⟨rfl,rfl⟩,_,_,rfl,⟨_,rfl,?_⟩,rfl⟩
  simp only[f9] at k2 ⊢
  exact k2
 ·rcases k4 b hb with h|h
  ·exact .inl h
  ·exact .inr h
 ·exact .inl hb
theorem cS8 {f0:FuncId} {st:n9} {k:Int} (h0: -9223372036854775808<=k) (h1:k<=9223372036854775807) (hp:∀ xs s r,TC f0 f0 xs s=some r->prims f0 xs s=some r):
  E7 (t8 old rounds fns prims (n+1)) f0 st [.sc (.int .i64 k)] (.sc (.string ⟨(Lib.itoa k).toArray⟩)):=by
 refine aA4 (ys:= [.int .i64 k]) (fun s=>hp _ _ _ ?_) rfl
 unfold TC
 rw[aO9 (j9.2 rfl)]
 simp only
 rw[aO9 ⟨h0,h1⟩]
theorem cP0 {f0:FuncId} {tn tN:TypeId} {es er:Option Value} {st:n9} {b:ByteArray} {v:Int} (hb:b.size<=281474976710656) (h:Lib.atoiAll b.data.toList= .ok v) (hp:∀ xs s r,vJ f0 tn tN es er f0 xs s=some r->prims f0 xs s=some r):
  E7 (t8 old rounds fns prims (n+1)) f0 st [.sc (.string b)] (.tup [.sc (.int .i64 v),.sc .nilIface]):=by
 refine cV3 (ys:= [.string b]) (rs:= [.int .i64 v,.nilIface]) (fun s=>hp _ _ _ ?_) (fun y hy=>?_)
 ·unfold vJ
  rw[aO9 (j9.2 rfl)]
  simp only
  rw[aO9 hb,h]
 ·simp at hy;rcases hy with rfl|rfl<;>rfl
theorem cO9 {f0:FuncId} {tn tN:TypeId} {es er:Option Value} {b:ByteArray} (hb:b.size<=281474976710656) (ho:∃ e,es=some e/\D2 e=true) (hq:∃ e,er=some e/\D2 e=true) (h:∀ v,Lib.atoiAll b.data.toList ≠ .ok v) (hp:∀ xs s r,vJ f0 tn tN es er f0 xs s=some r->prims f0 xs s=some r):
  ∃ (k:Int) (cs:List Value),m0 (t8 old rounds fns prims (n+1)) f0 [.sc (.string b)] (.tup [.sc (.int .i64 k),.ifc tn (.ptr 0 0)]) ⟨[(0,.box tN 1 (cs.map V.sc))],1,0⟩:=by
 obtain ⟨e1,rfl,h1⟩:=ho
 obtain ⟨e2,rfl,h2⟩:=hq
 by_cases ha:Lib.atoiAll b.data.toList= .range
 ·refine ⟨Lib.atoiSat b.data.toList,[.string ⟨#[65,116,111,105]⟩,.string b,e2],bO2 (ys:= [.string b]) (fun s=>hp _ _ _ ?_) fun y hy=>?_⟩
  ·unfold vJ
   rw[aO9 (j9.2 rfl)]
   simp only
   rw[aO9 hb,ha]
   rfl
  ·simp at hy;rcases hy with rfl|rfl|rfl
   ·rfl
   ·rfl
   ·exact h2
 ·have ha:=wM _ h ha
  refine ⟨0,[.string ⟨#[65,116,111,105]⟩,.string b,e1],bO2 (ys:= [.string b]) (fun s=>hp _ _ _ ?_) fun y hy=>?_⟩
  ·unfold vJ
   rw[aO9 (j9.2 rfl)]
   simp only
   rw[aO9 hb]
   first|rfl|(rw[ha];rfl)
  ·simp at hy;rcases hy with rfl|rfl|rfl
   ·rfl
   ·rfl
   ·exact h1
theorem eK {a b:FuncId->List Value->St->Option (Value × List A0)} {xs:List Value} {s:St} {r:Value × List A0} (h:a f xs s=some r):cJ a b f xs s=some r:=by
 unfold cJ
 rw[h]
theorem J8 {a b:FuncId->List Value->St->Option (Value × List A0)} {xs:List Value} {s:St} {r:Value × List A0} (h0:a f xs s=none) (h:b f xs s=some r):cJ a b f xs s=some r:=by
 unfold cJ
 rw[h0]
 exact h
section
open Go.RowKit
theorem bL0 {P:Program} {w:World} {l:List (String × DataW Unit)} (h:laidMet P l w) {n:String} {d:DataW Unit} (i:Nat) (hi:l[i]? =some (n,d)) {g:Nat} {t e:TypeId} {k:IntKind} {m:Nat} {zs:List Int} (hg:P.globalNamed n=some g) (ht:(P.globals[g]?).map (·.type)=some t)
  (hu:P.underlying t=some (.array m e)) (he:P.underlying e=some (.int k)) (hc:P.cellsOf e=1) (g0:P.cellsOf t=m) (hz:bF6 d=zs.map (Value.int k)):Lib.TabIs P w n k zs:=by
 obtain ⟨ps,h1,_,_⟩:=h
 obtain ⟨g',t',cs,fuel,p,k1,k2,k3,k4,_⟩:=AQ l ps h1 i hi
 rw[hg] at k1;cases k1
 rw[ht] at k2;cases k2
 have g1:=aU1 hu he hc g0 k4
 unfold Lib.TabIs
 rw[k3,<- hz,<- g1]
theorem IB {P:Program} {w:World} {l:List (String × DataW Unit)} (h:laidMet P l w) {n name:String} {lt:Lit} {r:List (DataW Unit)} (i:Nat) (hi:l[i]? =some (n,.iface name (.ptr (.agg (.lit lt::r))))) {g:Nat} {t:TypeId} {ms:Array (String × TypeId)} (hg:P.globalNamed n=some g)
  (ht:(P.globals[g]?).map (·.type)=some t) (g2:P.underlying t=some (.interface ms)):(X1 P w n).isSome=true:=by
 obtain ⟨ps,h1,_,g3⟩:=h
 obtain ⟨g',t',cs,fuel,p,k1,k2,k3,k4,k5⟩:=AQ l ps h1 i hi
 rw[hg] at k1;cases k1
 rw[ht] at k2;cases k2
 have h5:∀ u v,cs.toList= [.iface u v]->w.cell? ⟨g,0,none⟩=some (.iface u v):=by
  intro u v e
  rw[World.var?_cell hg k3 0,<- Array.getElem?_toList,e];rfl
 obtain ⟨u,b,o,e⟩:=ZR g2 k4 fun u v e=>by
  have hc:=h5 u v e
  have hs:cs.size=1:=by rw[<- Array.length_toList,e];rfl
  exact ⟨_,_,(g3 g 0 (k5 _ (by simp[MemPlace.row,hs]))).2 u v hc⟩
 have:cs=⟨[.iface u (.pointer (some ⟨b,o,none⟩))]⟩:=by cases cs;simpa using e
 unfold X1
 rw[k3,this]
 rfl
end
theorem aG2 {P:Program} {w:World} {name:String} (h:(X1 P w name).isSome=true):∃ e,X1 P w name=some e/\D2 e=true:=by
 obtain ⟨e,he⟩:=dJ5.1 h
 obtain ⟨t,v,rfl,hs,_⟩:=tK he
 exact ⟨_,he,hs⟩
end
end Go.Itp
namespace Go.Itp
open Go.ChangeShapes Go.WideShapes Go.ChangeAt Go.RowKit
set_option linter.unusedVariables false
set_option linter.unusedSimpArgs false

end Go.Itp
namespace Go.Itp
set_option linter.unusedVariables false
set_option linter.constructorNameAsVariable false
set_option linter.unusedSimpArgs false
section
variable {C:C8} {st:n9} {fr:D0}
theorem VQ {s n:Nat} {l:List D} (h:s ≠ 1\/n ≠ 0):eB C st (.sl s n l) (.sl 3 n l):=by
 intro s' μ F u h1 hv
 simp only[f9,A1] at hv ⊢
 rcases hv with ⟨a,c,rfl,i,k,r,q⟩|⟨h2,rfl,rfl,rfl|⟨h3,_⟩⟩
 ·exact .inl ⟨a,c,rfl,i,k,r,fun h=>by cases h⟩
 ·exact .inr ⟨by omega,rfl,rfl,.inl rfl⟩
 ·rcases h with h|h
  ·exact absurd h3 h
  ·exact absurd rfl h
theorem aX3:eB C st (.sc (.slice none 0 0)) (.sl 3 0 []):=by
 intro s μ F u h1 hv
 rw[hv.scv]
 simp only[f9,A1]
 refine .inr ⟨by omega,?_,?_,.inl ?_⟩<;>trivial
theorem Y8 {v:V} {x:Value} {s n:Nat} {l:List D} (hs:D1 st.own v=some (.sl s n l)) (h5:D4 st.ro st.own (fA v)=true) (hk:s ≠ 1\/n ≠ 0) (h0:C.w0.nx=0) (h4:st.ro=0):K7 C [(0,.tup [v,.sc x])] st [(0,.tup [.sl 3 n l,.sc x])] ⟨[],0,0⟩:=by
 have e1:fA (.tup [v,.sc x])=fA v:=by simp[fA,S5]
 have e2:D1 st.own (.tup [v,.sc x])=some (.tup [.sl s n l,.sc x]):=by simp[D1,T4,hs]
 refine (uZ (t:=0) (v:= .tup [v,.sc x]) rfl e2 (by rw[e1];exact h5)).trans ?_
 refine (gY (t:=0) (v:= .tup [.sl s n l,.sc x]) (v':= .tup [.sl 3 n l,.sc x]) rfl (JN (VQ hk))).trans ?_
 exact o9 [] 0 h0 h4 rfl rfl rfl
theorem E2 {x:Value} (h0:C.w0.nx=0) (h4:st.ro=0):K7 C [(0,.tup [.sc (.slice none 0 0),.sc x])] st [(0,.tup [.sl 3 0 [],.sc x])] ⟨[],0,0⟩:=
 (gY (t:=0) (v:= .tup [.sc (.slice none 0 0),.sc x]) (v':= .tup [.sl 3 0 [],.sc x]) rfl (JN aX3)).trans (o9 [] 0 h0 h4 rfl rfl rfl)
theorem aG {n:Nat} {l:List D} {x:Value}:nT [] (.tup [.sl 3 n l,.sc x]):=uH (by simp only[Cl,YF,and_true];rfl)
end
section
variable {C:C8} {st:n9} {fr:D0}
end
section
variable {old:Nat->Nat->Option Value} {rounds:Nat} {fns:FuncId->Option p8} {prims:FuncId->List Value->St->Option (Value × List A0)} {n:Nat} {f:FuncId} {C:C8} {st:n9}
theorem YX {v:V} {Q:V->n9->Prop} (hC:C.E=t8 old rounds fns prims (n+1)) (hp:∀ x s,prims f [x] s=some (x,[])) (hq:Q v st):T2 C f [v] st Q:=by
 refine ⟨v,st,hq,fun s μ F xsI h3 hx h4=>?_⟩
 simp only[i6] at hx
 obtain ⟨vI,_,rfl,h1,rfl⟩:=hx
 refine ⟨vI,s,μ,F,?_,h3,h1,VW.le.refl _,rfl,aQ5 _,fun b hb=> .inl hb⟩
 simp only[callI,hC,K0,hp]
 rfl
end
theorem oY (g:Bool) (o k:Nat):tI 0 g (.ptr o k) (.sc (.pointer none))=some (.sc (.bool g)):=by cases g<;>rfl
theorem zM (g:Bool):tI 0 g (.sc (.pointer none)) (.sc (.pointer none))=some (.sc (.bool (!g))):=by cases g<;>rfl
theorem sQ {α:Type}:∀ (r:List (Nat × α)) (i j:Nat) (v:α),i ≠ j->J6 i (A3 r j v)=A3 (J6 i r) j v
 | [],i,j,v,h=>rfl
 |(k,u)::r,i,j,v,h=>by
  simp only[M5,cW]
  by_cases h1:j=k
  ·subst h1
   rw[aO9 rfl,cW,aQ4 h,aQ4 h,M5,aO9 rfl]
  ·rw[aQ4 h1,cW]
   by_cases h2:i=k
   ·rw[aO9 h2,aO9 h2];exact sQ r i j v h
   ·rw[aQ4 h2,aQ4 h2,M5,aQ4 h1,sQ r i j v h]
section
variable {C:C8} {st:n9}
theorem bR8 {o:Nat}:eB C st (.gr 2 o 0) (.sc (.slice none 0 0)):=by
 intro s' μ F u h1 hv
 simp only[f9] at hv ⊢
 rcases hv.2 with ⟨_,h|⟨h,_⟩⟩|⟨h,_⟩
 ·exact ⟨h,rfl⟩
 ·exact absurd rfl h
 ·exact absurd rfl h
end
section
variable {old:Nat->Nat->Option Value} {rounds:Nat} {fns:FuncId->Option p8} {prims:FuncId->List Value->St->Option (Value × List A0)} {n:Nat} {f:FuncId} {xs:List V} {v:V} {st st1:n9} {af:p8} {C:C8}
theorem bE3 {st':n9} {Q:V->n9->Prop} (hC:C.E=t8 old rounds fns prims (n+1)) (hf:fns f=some af) (h5:af.pure=false) (hp:∀ xs s,prims f xs s=none) (h6:xs.length<=af.n) (hq:Q v st1)
  (hW:∀ C':C8,C'.w0.nx=st.next->K7 C' (P4 0 xs) st (P4 0 xs) st') (h:∀ C':C8,C'.E=t8 old rounds fns prims n->C'.w0.nx=st.next->gC C' af.code [] (P4 0 xs) st' (fC C' af.res v st1)):T2 C f xs st Q:=by
 refine ⟨v,st1,hq,fun s μ F xsI h3 hx h4=>?_⟩
 let C':C8:=⟨t8 old rounds fns prims n,s.next,s.heap,C.U,⟨p9 (t8 old rounds fns prims n) s.heap,F,μ,st.next⟩,C.p0⟩
 have hE:p9 C'.E=p9 C.E:=by rw[hC];exact X3 _ _
 have h7:SR C' st s μ F:=h3.env2 hE (aQ5 _) (fun b=>⟨fun hb=>⟨by have:=(h3.un b hb).1;have:=h3.n0;show b<s.next;omega,rfl⟩,fun hb=>hb⟩)
 have h8:i6 (x8 C' st s μ F) xs xsI:=by
  show i6 ⟨p9 C'.E s.heap,F,μ,st.next⟩ xs xsI
  rw[hE];exact hx
 obtain ⟨vI,sf,h9,μ',G,g1,g2,g3,g4,g5⟩:=sU (C:=C') (s:=s) h6 (h C' rfl rfl) (hW C' rfl s (cX 0 xsI) ⟨μ,F,h7,bR 0 h8,VW.le.refl _,h4,fun b hb=> .inl hb⟩) hx.length
 have hn:s.next<=sf.next:=g1.n0
 have hw:x8 C st1 sf μ' G=x8 C' st1 sf μ' G:=by
  show (⟨p9 C.E sf.heap,G,μ',st1.next⟩:VW)=⟨p9 C'.E sf.heap,G,μ',st1.next⟩
  rw[hE]
 have g1':SR C st1 sf μ' G:=g1.env2 hE.symm (by have:=h3.n0;omega) (fun b=>⟨fun hb=>⟨(h3.un b hb).1,by rw[(g1.un b hb).2];exact (h3.un b hb).2⟩,fun hb=>hb⟩)
 refine ⟨vI,sf,μ',G,?_,g1',by rw[hw];exact g2,?_,by rw[g4,h4],hn,fun b hb=>?_⟩
 ·simp only[callI,hC,K0,vN,hp,hf,aI2,h5]
  exact h9
 ·rw[hw]
  show VW.le ⟨p9 C.E s.heap,F,μ,st.next⟩ _
  rw[<- hE];exact g3
 ·rcases g5 b hb with hb|hb
  ·exact .inl hb
  ·exact .inr (by rw[h4];exact hb)
end
def bD (b:UInt8):D:= .sc (.int .u8 b.toNat)
def gR (s:ByteArray):List D:=s.data.toList.map bD
theorem cG1 (s:ByteArray):s.data.toList.map (fun b=>D.sc (.int .u8 b.toNat))=gR s:=(rfl)
theorem WO (a b:ByteArray):gR (a++b)=gR a++gR b:=by simp[gR]
theorem DF (s:ByteArray):(gR s).length=s.size:=by simp[gR]
theorem cG2 (s:ByteArray):Q1 (gR s)=true:=by
 unfold Q1 gR
 rw[bB3]
 intro d hd
 obtain ⟨b,_,rfl⟩:=dK4.1 hd
 rfl
theorem oW:∀ (l:List UInt8),E4 (l.map bD)=some l
 | []=>rfl
 |b::r=>by
  have:=oW r
  rw[cJ1]
  show (E4 (r.map bD)).map (UInt8.ofNat ((b.toNat:Int)).toNat::·)=some (b::r)
  rw[this]
  simp
theorem bA0 (st:n9) (t:TypeId):EI st t (.sc (.pointer none)) (.sc (.int .i64 0))=some (.sc (.string .empty),st):=(rfl)
theorem aZ9 (st:n9) (t e o:Nat) (s:ByteArray) (ho:j7 st.own o=some (.gro t e false (gR s))) (ha:st.ro<=o) (h0:0<s.size) (h1:s.size<=1099511627776):EI st t (.ptr o 0) (.sc (.int .i64 s.size))=some (.sc (.string s),⟨J6 o st.own,st.next,st.ro⟩):=by
 simp only[EI,ho]
 rw[aO9 ⟨by omega,by unfold s9;omega,by rw[bA2];exact ha⟩]
 have e1:(Nat.beq t t && !false)=true:=by rw[(j9 (i:=t) (j:=t)).2 rfl];rfl
 rw[aO9 e1]
 have e2:F5 ((gR s).drop 0) ((s.size:Int)).toNat=some (gR s):=by
  rw[dD7,cJ2,Y2 _ _ (by rw[DF];exact aQ5 _),cS6 (by rw[DF];exact aQ5 _)]
 rw[e2]
 simp only[aI2,gR,oW,aX8]
def iD (x:Int):D:= .sc (.int .i64 x)
def RdV (st:n9) (v:V) (l:List Int):Prop:=(∃ s,v= .sl s l.length (l.map iD))\/(∃ s o t z,v= .gr s o l.length/\j7 st.own o=some (.gro t 1 z (l.map iD)))\/(∃ o c t g z,v= .ref o 0 l.length c/\j7 st.own o=some (.row t 1 g z (l.map iD)))\/(v= .sc (.slice none 0 0)/\l= [])
structure Rdv (H:E9) (v:V) (l:List Int) (p:Nat->V):Prop where
 len:rF false v=some (.sc (.int .i64 l.length))
 idx:∀ i:Int,0<=i->i<l.length->lA 1 v (.sc (.int .i64 i))=some (p i.toNat)
 ld:∀ (old:Nat->Nat->Option Value) (k:Nat),k<l.length->dV old H none (some (p k))=some (.sc (.int .i64 l[k]!))
theorem RdV.sl (st:n9) (s:Nat) (l:List Int):RdV st (.sl s l.length (l.map iD)) l:= .inl ⟨s,rfl⟩
theorem RdV.gr {st:n9} {s o t:Nat} {z:Bool} {l:List Int} (h:j7 st.own o=some (.gro t 1 z (l.map iD))):RdV st (.gr s o l.length) l:= .inr (.inl ⟨s,o,t,z,rfl,h⟩)
theorem RdV.ref {st:n9} {o c t:Nat} {g z:Bool} {l:List Int} (h:j7 st.own o=some (.row t 1 g z (l.map iD))):RdV st (.ref o 0 l.length c) l:= .inr (.inr (.inl ⟨o,c,t,g,z,rfl,h⟩))
set_option maxRecDepth 100000
section
variable {old:Nat->Nat->Option Value} {rounds:Nat} {fns:FuncId->Option p8} {prims:FuncId->List Value->St->Option (Value × List A0)} {n:Nat} {f:FuncId} {C:C8} {st:n9}
end
theorem bY6 {H:E9} {o t:Nat} {g z:Bool} {L:List UInt8} (h:j7 H o=some (.row t 1 g z (L.map bD))) (c:Nat):bC1 H (.ref o 0 L.length c)=some (.sc (.string ⟨L.toArray⟩)):=by
 have e:((L.map bD).drop 0).take (L.length*1)=L.map bD:=by rw[dD7,dK7,cS6 (by simp)]
 simp only[bC1,okV,Y1,aI2,if_true,M6,h,cZ0,cZ9,dK7,aQ5]
 rw[dK7] at e
 rw[e]
 simp[oW]
theorem dG9 (k:Nat) (h:k<256):bD (UInt8.ofNat k)= .sc (.int .u8 k):=by
 unfold bD
 rw[UInt8.toNat_ofNat_of_lt' h]
theorem FY (l m:List UInt8):(⟨l.toArray⟩:ByteArray)++⟨m.toArray⟩=⟨(l++m).toArray⟩:=by
 apply ByteArray.ext
 simp
theorem B1 (l:List UInt8):(⟨l.toArray⟩:ByteArray).size=l.length:=by simp[ByteArray.size]
theorem N8 (l m:List UInt8) (h:l.length+m.length<9223372036854775807):K8 .add (.string ⟨l.toArray⟩) (.string ⟨m.toArray⟩)=some (.string ⟨(l++m).toArray⟩):=by
 rw[bC3 _ _ (by rw[B1,B1];exact h),FY]
theorem LB (k:Nat) (h:k<256):IntKind.wrap .u8 (k:Int)=k:=by
 simp[IntKind.wrap,IntKind.signed,IntKind.bits]
 omega
theorem aE0 {H:E9} {o t:Nat} {g z:Bool} (k:Nat) (hk:k<256) (h:j7 H o=some (.row t 1 g z [.sc (.int .u8 (k:Int))])) (c:Nat):bC1 H (.ref o 0 1 c)=some (.sc (.string ⟨[UInt8.ofNat k].toArray⟩)):=
 bY6 (L:= [UInt8.ofNat k]) (g:=g) (z:=z) (t:=t) (by rw[cJ1,dL9,dG9 k hk];exact h) c
def v7 (c:UInt8):List UInt8->List (List UInt8)
 | []=> [[]]
 |b::r=>if b=c then []::v7 c r else match v7 c r with
   | []=> [[b]]
   |w::ws=>(b::w)::ws
def join (c:UInt8):List (List UInt8)->List UInt8
 | []=> []
 | [w]=>w
 |w::v::ws=>w++c::join c (v::ws)
theorem sJ (c:UInt8):∀ s,v7 c s ≠ []
 | []=>by simp[v7]
 |b::r=>by
  simp only[v7]
  split
  ·simp
  ·split<;>simp
theorem aR {c:UInt8}:∀ {s:List UInt8},c ∉ s->v7 c s= [s]
 | [],_=>rfl
 |b::r,h=>by
  rw[bX5,not_or] at h
  have ih:=aR h.2
  simp only[v7]
  rw[aQ4 (fun e=>h.1 e.symm),ih]
theorem W9 {c:UInt8}:∀ {a:List UInt8} (r:List UInt8),c ∉ a->v7 c (a++c::r)=a::v7 c r
 | [],r,_=>by simp[v7]
 |b::a,r,h=>by
  rw[bX5,not_or] at h
  have ih:=W9 r h.2
  rw[dI5,v7,aQ4 (fun e=>h.1 e.symm),ih]
theorem cY (c:UInt8):∀ s:List UInt8,c ∉ s\/∃ a r,s=a++c::r/\c ∉ a
 | []=> .inl (by simp)
 |b::s=>by
  by_cases h:b=c
  ·subst h;exact .inr ⟨[],s,rfl,by simp⟩
  ·rcases cY c s with h2|⟨a,r,rfl,h2⟩
   ·exact .inl (by rw[bX5,not_or];exact ⟨fun e=>h e.symm,h2⟩)
   ·exact .inr ⟨b::a,r,rfl,by rw[bX5,not_or];exact ⟨fun e=>h e.symm,h2⟩⟩
theorem EL {c:UInt8}:∀ {ws:List (List UInt8)},ws ≠ []->(∀ w ∈ ws,c ∉ w)->v7 c (join c ws)=ws
 | [],h,_=>absurd rfl h
 | [w],_,h=>aR (h w (by simp))
 |w::v::ws,_,h=>by
  rw[join,W9 _ (h w (by simp)),EL (by simp) fun x hx=>h x (cR3 _ hx)]
theorem gZ {c:UInt8}:∀ (n:Nat) {s:List UInt8},s.length<=n->(v7 c s).length<=s.length+1/\∀ w ∈ v7 c s,w.length<=s.length
 |n,s,hn=>by
  rcases cY c s with h|⟨a,r,rfl,h⟩
  ·rw[aR h];simp
  ·rw[W9 r h]
   cases n with
   |zero=>simp at hn
   |succ n=>
    have ih:=gZ (c:=c) n (s:=r) (by simp at hn;omega)
    refine ⟨by simp only[bK2,bA4];omega,fun w hw=>?_⟩
    rcases bX5.1 hw with rfl|hw
    ·simp only[bK2,bA4];omega
    ·have:=ih.2 w hw
     simp only[bK2,bA4];omega
def xB (c:UInt8) (l:List UInt8):Int:=match R2 c l 0 with|some i=>i|none=> -1
theorem nY {c:UInt8}:∀ {l:List UInt8} (k:Nat),c ∉ l->R2 c l k=none
 | [],_,_=>rfl
 |b::r,k,h=>by
  rw[bX5,not_or] at h
  simp only[R2]
  rw[aQ4 (fun e=>h.1 (UInt8.toNat_inj.1 e).symm)]
  exact nY _ h.2
theorem qR {c:UInt8}:∀ {a:List UInt8} (r:List UInt8) (k:Nat),c ∉ a->R2 c (a++c::r) k=some (k+a.length)
 | [],r,k,_=>by simp[R2]
 |b::a,r,k,h=>by
  rw[bX5,not_or] at h
  simp only[dI5,R2]
  rw[aQ4 (fun e=>h.1 (UInt8.toNat_inj.1 e).symm),qR r (k+1) h.2]
  simp only[bK2]
  congr 1
  omega
theorem HN {c:UInt8} {l:List UInt8} (h:c ∉ l):xB c l= -1:=by unfold xB;rw[nY 0 h]
theorem AJ {c:UInt8} {a:List UInt8} (r:List UInt8) (h:c ∉ a):xB c (a++c::r)=a.length:=by unfold xB;rw[qR r 0 h];simp
theorem RN (c:UInt8) (l:List UInt8):mS ⟨l.toArray⟩ c=xB c l:=(rfl)
theorem tM (l:List UInt8) (i j:Nat):(⟨l.toArray⟩:ByteArray).extract i j=⟨((l.drop i).take (j - i)).toArray⟩:=by
 apply ByteArray.ext
 apply cZ6
 rw[ByteArray.data_extract]
 simp
theorem aT7 (k:IntKind) (z:Int) (n:Nat) (h0:0<=z) (h1:z<n):B4 (.int k z) n=some z.toNat:=by
 simp only[B4];rw[aO9 ⟨h0,h1⟩]
theorem mO (k:IntKind) (z:Int) (d n:Nat) (h0:0<=z) (h1:z<=n):z8 (some (.int k z)) d n=some z.toNat:=by
 simp only[z8];rw[aO9 ⟨h0,h1⟩]
theorem dH (l:List UInt8) (k:IntKind) (z:Int) (h0:0<=z) (h1:z<l.length):mV (.sc (.string ⟨l.toArray⟩)) (.sc (.int k z))=some (.sc (.int .u8 (l[z.toNat]!).toNat)):=by
 simp only[mV]
 rw[aT7 _ _ _ h0 (by rw[B1];exact h1)]
 have hz:z.toNat<l.length:=by omega
 simp only[aI2,y7,cJ3 hz]
 rw[bA7 l z.toNat hz]
theorem aX5 (l:List UInt8) (k j:IntKind) (a b:Int) (h0:0<=a) (h1:a<=b) (h2:b<=l.length):rZ (some (.int k a)) (some (.int j b)) (.sc (.string ⟨l.toArray⟩))=some (.sc (.string ⟨((l.drop a.toNat).take (b.toNat - a.toNat)).toArray⟩)):=by
 simp only[rZ]
 rw[mO _ _ _ _ (by omega) (by rw[B1];exact h2),aI2,mO _ _ _ _ h0 (by omega),aI2,tM]
theorem aO4 (l:List UInt8) (j:IntKind) (b:Int) (h0:0<=b) (h2:b<=l.length):rZ none (some (.int j b)) (.sc (.string ⟨l.toArray⟩))=some (.sc (.string ⟨(l.take b.toNat).toArray⟩)):=by
 simp only[rZ]
 rw[mO _ _ _ _ (by omega) (by rw[B1];exact h2),aI2,show z8 none 0 b.toNat=some 0 from rfl,aI2,tM]
 simp
theorem sA (l:List UInt8) (k:IntKind) (a:Int) (h0:0<=a) (h1:a<=l.length):rZ (some (.int k a)) none (.sc (.string ⟨l.toArray⟩))=some (.sc (.string ⟨(l.drop a.toNat).toArray⟩)):=by
 simp only[rZ]
 rw[show z8 none (ByteArray.mk l.toArray).size (ByteArray.mk l.toArray).size=some l.length by rw[B1];rfl,aI2,mO _ _ _ _ h0 (by omega),aI2,tM]
 rw[cS6 (by simp)]
theorem T9 (l m:List UInt8):((⟨l.toArray⟩:ByteArray)=⟨m.toArray⟩)=(l=m):=by
 refine propext ⟨fun h=>?_,fun h=>by rw[h]⟩
 have:=congrArg (fun b:ByteArray=>b.data.toList) h
 simpa using this
theorem E7.env {E E':G3} {f:FuncId} {st:n9} {xs:List V} {v:V} (h:E7 E f st xs v) (hp:E'.pcall=E.pcall) (ho:E'.old=E.old):E7 E' f st xs v:=by
 have ha:p9 E'=p9 E:=yJ ho
 intro s μ F xsI w0 h0 hx
 have hw:x8 (C1 E' s w0) ⟨st.own,st.next,st.next⟩ ⟨s.heap,s.next,s.next⟩ μ F=x8 (C1 E s w0) ⟨st.own,st.next,st.next⟩ ⟨s.heap,s.next,s.next⟩ μ F:=by
  show (⟨p9 E' s.heap,F,μ,st.next⟩:VW)=⟨p9 E s.heap,F,μ,st.next⟩
  rw[ha]
 have h1:SR (C1 E s w0) ⟨st.own,st.next,st.next⟩ ⟨s.heap,s.next,s.next⟩ μ F:=h0.env (C':=C1 E s w0) ha.symm rfl rfl rfl
 obtain ⟨vI,e,hv⟩:=h s μ F xsI w0 h1 (by rw[<- hw];exact hx)
 exact ⟨vI,by rw[hp];exact e,hv⟩
theorem bH0 (g l:Bool) (ts:List TypeId) (t:TypeId) (v:V):aG0 g l ts (.ifc t v) (.sc .nilIface)=some (.sc (.bool g)):=(rfl)
theorem bG9 (ts:List TypeId):vT true ts .nilIface .nilIface=some true:=(rfl)
section
variable {C:C8} {st:n9} {fr:D0}
theorem XX {fz:List Nat} (h6:D4 st.ro st.own fz=true):K7 C fr st fr ⟨D7 fz st.own,st.next,st.ro⟩:=by
 rintro s frI ⟨μ,F,h1,hf,h3,h4,h5⟩
 obtain ⟨f1,f2⟩:=h1.freeze h6
 refine ⟨μ,_,f1,fun i u e=>?_,h3.trans f2,h4,fun b hb=>?_⟩
 ·obtain ⟨vI,a,b⟩:=hf i u e
  exact ⟨vI,a,f9.mono f2 b⟩
 ·rcases h1.fin_ge h6 hb with hb|hb
  ·exact h5 b hb
  ·exact .inr (by rw[<- h4];exact hb)
theorem cI2 {w:VW} {d:D} {v:Value} (h:f9 w (dv d) v):A1 w d v:=by
 cases d with
 |sc x=>simpa only[dv,f9,A1] using h
 |sl s n l=>simpa only[dv,f9] using h
theorem XP {w:VW}:∀ {l:List D} {vs:List Value},i6 w (sM l) vs->m6 w l vs
 | [],vs,h=>by simpa only[sM,i6,m6] using h
 |d::r,vs,h=>by
  simp only[sM,i6,m6] at h ⊢
  obtain ⟨v,vs',h1,h2,h3⟩:=h
  exact ⟨v,vs',h1,cI2 h2,XP h3⟩
theorem XW {o t e:Nat} {l:List D} (h:j7 st.own o=some (.box t e (sM l))) (h7:Q1 l=true):K7 C fr st fr ⟨A3 st.own o (.row t e false false l),st.next,st.ro⟩:=by
 rintro s frI ⟨μ,F,h1,hf,h3⟩
 have h0:∀ i ob,j7 (A3 st.own o (.row t e false false l)) i=some ob->(i=o/\ob= .row t e false false l)\/(i ≠ o/\j7 st.own i=some ob):=fun i ob e'=>by
  rw[H7 _ _ _ _ _ h] at e'
  split at e'
  ·rename_i hi;cases e';exact .inl ⟨hi,rfl⟩
  ·rename_i hi;exact .inr ⟨hi,e'⟩
 refine ⟨μ,F,⟨?_,?_,?_,h1.inj,?_,h1.lt,h1.cl,h1.un,h1.n0,?_,h1.hb,h1.pr,h1.pb⟩,hf,h3⟩
 ·intro i ob e' hn
  rcases h0 i ob e' with ⟨rfl,rfl⟩|⟨hi,e1⟩
  ·obtain ⟨b,blk,m1,m2,m3⟩:=h1.obj i _ h rfl
   exact ⟨b,blk,m1,m2,m3.1,m3.2.1,m3.2.2.1,XP m3.2.2.2⟩
  ·exact h1.obj i ob e1 hn
 ·intro i ob b e' e2 hz
  rcases h0 i ob e' with ⟨rfl,rfl⟩|⟨hi,e1⟩
  ·exact h1.wr i _ b h e2 rfl
  ·exact h1.wr i ob b e1 e2 hz
 ·intro i ob b e' e2 hz
  rcases h0 i ob e' with ⟨rfl,rfl⟩|⟨hi,e1⟩
  ·cases hz
  ·exact h1.fz i ob b e1 e2 hz
 ·intro i b e'
  obtain ⟨d1,d2,ob,d3,d4⟩:=h1.dom i b e'
  by_cases hi:i=o
  ·subst hi;exact ⟨d1,d2,_,by simp only;rw[H7 _ _ _ _ _ h,aO9 rfl],rfl⟩
  ·exact ⟨d1,d2,ob,by simp only;rw[H7 _ _ _ _ _ h,aQ4 hi];exact d3,d4⟩
 ·intro i ob e'
  rcases h0 i ob e' with ⟨rfl,rfl⟩|⟨hi,e1⟩
  ·exact ⟨(h1.own i _ h).1,h7⟩
  ·exact h1.own i ob e1
end
end Go.Itp
namespace Go.Itp
open Go.Lib
set_option linter.unusedVariables false
set_option linter.unusedSimpArgs false
def W1 (b:UInt8):Bool:=decide (48<=b.toNat) && decide (b.toNat<=57)
theorem tD {d:Nat} (h:d<10):W1 (UInt8.ofNat (48+d))=true/\(UInt8.ofNat (48+d)).toNat=48+d:=by
 have:(UInt8.ofNat (48+d)).toNat=48+d:=UInt8.toNat_ofNat_of_lt' (by unfold UInt8.size;omega)
 refine ⟨?_,this⟩
 simp only[W1,this,aO3,cT5]
 omega
theorem dA:∀ (n u:Nat),u<=n->∀ c ∈ decDigits u,W1 c=true
 |n,u,hn,c,hc=>by
  rw[decDigits] at hc
  split at hc
  ·rw[cZ2.1 hc];exact (tD (by omega)).1
  ·rcases cB1.1 hc with hc|hc
   ·cases n with
    |zero=>omega
    |succ n=>exact dA n (u / 10) (by omega) c hc
   ·rw[cZ2.1 hc];exact (tD (by omega)).1
theorem AM {z:Int} (h:0<=z):∀ c ∈ itoa z,W1 c=true:=by
 obtain ⟨u,rfl⟩:=cZ4 h
 rw[itoa_nonneg]
 exact dA u u (aQ5 _)
theorem X6 (u:Nat):decDigits u ≠ []:=by rw[decDigits];split<;>simp
theorem aJ8 {z:Int}:itoa z ≠ []:=by unfold itoa;split;simp;exact X6 _
theorem kL:∀ (l m:List UInt8) (acc:Nat),decFrom acc (l++m)=(decFrom acc l).bind fun a=>decFrom a m
 | [],m,acc=>rfl
 |b::r,m,acc=>by
  simp only[dI5,decFrom]
  cases digitVal b with
  |none=>rfl
  |some d=>exact kL r m _
theorem kN {d:Nat} (h:d<10):digitVal (UInt8.ofNat (48+d))=some d:=by
 unfold digitVal
 rw[(tD h).2,aO9 (by omega)]
 congr 1
 omega
theorem N4:∀ (n u:Nat),u<=n->decFrom 0 (decDigits u)=some u
 |n,u,hn=>by
  rw[decDigits]
  split
  ·rename_i h
   simp only[decFrom,kN h]
   congr 1
   omega
  ·cases n with
   |zero=>omega
   |succ n=>
    rw[kL,N4 n (u / 10) (by omega)]
    simp only[aI2,decFrom,kN (show u % 10<10 by omega)]
    congr 1
    omega
theorem nV {u v:Nat} (h:decDigits u=decDigits v):u=v:=by
 have h1:=N4 u u (aQ5 _)
 rw[h,N4 v v (aQ5 _)] at h1
 exact (Option.some.inj h1).symm
theorem bK7 {x y:Int} (hx:0<=x) (hy:0<=y) (h:itoa x=itoa y):x=y:=by
 obtain ⟨u,rfl⟩:=cZ4 hx
 obtain ⟨v,rfl⟩:=cZ4 hy
 rw[itoa_nonneg,itoa_nonneg] at h
 rw[nV h]
theorem PS (u:Nat) (h:(decDigits u).length<=18):atoiAll (decDigits u)= .ok (u:Int):=by
 rw[atoiAll_short _ h]
 have hd:=dA u u (aQ5 _)
 have hf:=N4 u u (aQ5 _)
 cases hw:decDigits u with
 |nil=>exact absurd hw (X6 u)
 |cons b r=>
  rw[hw] at hd hf
  have hb:=hd b (by simp)
  simp only[W1,aO3,cT5] at hb
  have n1:¬ b=45:=by rintro rfl;simp at hb
  have n2:¬ b=43:=by rintro rfl;simp at hb
  have e1:(b==45)=false:=by simpa using n1
  have e2:(b==43)=false:=by simpa using n2
  simp only[atoi,e1,e2,decNat,List.isEmpty_cons,hf]
  rfl
theorem K3:∀ (k u:Nat),u<10 ^ (k+1)->(decDigits u).length<=k+1
 |0,u,h=>by rw[decDigits,dif_pos (by simpa using h)];simp
 |k+1,u,h=>by
  rw[decDigits]
  split
  ·simp
  ·have:=K3 k (u / 10) (by rw[Nat.pow_succ] at h;omega)
   simp;omega
theorem aR1 {z:Int} (h:0<=z) (h1:z<1000000000000):atoiAll (itoa z)= .ok z:=by
 obtain ⟨u,rfl⟩:=cZ4 h
 rw[itoa_nonneg]
 exact PS u (by have:=K3 11 u (by simpa using (by omega:u<1000000000000));omega)
end Go.Itp
namespace Go.Itp
open Go.ChangeShapes Go.WideShapes Go.ChangeAt Go.RowKit
set_option linter.unusedVariables false
set_option linter.unusedSimpArgs false
theorem MQ {α β:Type} {g:α->List β} {q:Nat} (hq:0<q):∀ (l:List α),(∀ a ∈ l,(g a).length=q)->∀ i j,j<q->(l.flatMap g)[i*q+j]? =(l[i]?).bind fun a=>(g a)[j]?
 | [],_,i,j,_=>by simp
 |a::r,h,i,j,hj=>by
  have ha:=h a (by simp)
  rw[dM1]
  cases i with
  |zero=>
   rw[Nat.zero_mul,cZ9,dJ9 (by omega)]
   simp
  |succ i=>
   have ih:=MQ hq r (fun b hb=>h b (cR3 _ hb)) i j hj
   rw[Nat.succ_mul,dL0 (by rw[ha];omega),ha,show i*q+q+j - q=i*q+j by omega,ih]
   simp
theorem aD8 {v:Value} (h:D2 v=true):LH v=v:=by
 unfold LH
 split
 ·simp[D2] at h
 ·rfl
section
variable {H:Type} {enc:TypeId × Value->H} {P:Program} {W:World} {base:Nat} {h0:Bool}
theorem yX {w:World} {b:Nat} {a:Addr} {n:Nat} {cs:List Value} (h:w.cells? b a n=some cs):cs.length=n/\∀ j,j<n->w.cell? (a.add j)=cs[j]? :=by
 unfold World.cells? at h
 split at h
 case isFalse=>cases h
 refine ⟨by rw[Lib.mapM_length h,List.length_range],fun j hj=>?_⟩
 obtain ⟨c,h1,h2⟩:=Lib.mapM_at h j j (by rw[cJ3 (by simpa using hj)];simp)
 rw[h2,h1]
theorem CA {α:Type} [Inhabited α] {g:α->List Value} {q:Nat} (hq:0<q) (hg:∀ a,(g a).length=q/\∀ c ∈ g a,D2 c=true) {t e:TypeId} {fuel:Nat} {v:Value} {x:DataW H × List MemPlace} (ht:P.underlying t=some (.slice e)) (hc:P.cellsOf e=q) (h6:0<P.bytesOf e)
  (ho:∀ a n c,v= .slice (some a) n c->a.spot=none)
  (h:DataW.trod enc P W base (fun _=>true) h0 fuel t [v]=some x) (h7:∀ n ∈ x.1.weights P t,n<=reachBytes)
  (h8:∀ (cs:List Value) (n:Nat) (y:DataW H × List MemPlace),cs.length=q->DataW.trod enc P W base (fun _=>true) h0 n e cs=some y->∃ a,cs=g a):
  ∃ l:List α,f9 (uX (J2 W)) (.sl 3 l.length (l.flatMap fun a=>(g a).map D.sc)) v/\x9 0 v= []/\l.length*P.bytesOf e<=reachBytes:=by
 rcases DataW.trod_slice ht h with ⟨h1,_⟩|⟨a,len,cap,elems,rest,n,rfl,h1,rfl,hb,hl,hm,g1,hp,hr,_⟩
 ·simp only[dI9,and_true] at h1
  subst h1
  refine ⟨[],?_,rfl,by simp⟩
  simp only[f9,A1]
  exact .inr ⟨by omega,by trivial,by trivial,.inl (by trivial)⟩
 ·simp only[dI9,and_true] at h1
  subst h1
  have hs:=ho a len cap rfl
  obtain ⟨b,o,sp⟩:=a
  simp only at hs
  subst hs
  obtain ⟨g2,g3⟩:=hr rfl
  have hu:cap*P.bytesOf e<=reachBytes:=by
   have:=h7 ((elems.length+rest.length)*P.bytesOf e) (by simp[DataW.weights,ht])
   rwa [show elems.length+rest.length=cap by omega] at this
  have g4:cap<=cap*P.bytesOf e:=Nat.le_mul_of_pos_right _ h6
  have g5:reachBytes<A5:=by decide
  have h4:∀ i,∃ a:α,i<len->∀ j,j<q->W.cell? ⟨b,o+(i*q+j),none⟩=(g a)[j]? :=fun i=>by
   by_cases hi:i<len
   ·have:=hp i hi
    rw[hc,cJ3 (by omega)] at this
    simp only[aG3] at this
    obtain ⟨cs,h2,h3⟩:=this
    obtain ⟨k1,k2⟩:=yX h2
    obtain ⟨a,rfl⟩:=h8 cs n _ k1 h3
    refine ⟨a,fun _ j hj=>?_⟩
    have:=k2 j hj
    rw[<- this]
    rw[add_plain,add_plain,dK2]
   ·exact ⟨default,fun h=>absurd h hi⟩
  let f:Nat->α:=fun i=>Classical.choose (h4 i)
  have hf:∀ i,i<len->∀ j,j<q->W.cell? ⟨b,o+(i*q+j),none⟩=(g (f i))[j]? :=fun i=>Classical.choose_spec (h4 i)
  let l:List α:=(List.range len).map f
  have h9:l.length=len:=by simp[l]
  let vals:List Value:=l.flatMap g
  have he:vals.length=len*q:=by
   have:∀ l:List α,(l.flatMap g).length=l.length*q:=fun l=>by
    induction l with
    |nil=>simp
    |cons a l ih=>rw[dM1,bA4,ih,(hg a).1,bK2,Nat.succ_mul];omega
   rw[show vals.length=l.length*q from this l,h9]
  have hw:∀ k (hk:k<vals.length),W.cell? ⟨b,o+k,none⟩=some vals[k]:=fun k hk=>by
   rw[he] at hk
   have hi:k / q<len:=Nat.div_lt_of_lt_mul (by rw[Nat.mul_comm];exact hk)
   have hj:k % q<q:=Nat.mod_lt _ hq
   have hx:k / q*q+k % q=k:=by rw[Nat.mul_comm];exact Nat.div_add_mod k q
   have e1:=hf (k / q) hi (k % q) hj
   have e2:=MQ (g:=g) hq l (fun a _=>(hg a).1) (k / q) (k % q) hj
   rw[hx] at e1 e2
   have e3:l[k / q]? =some (f (k / q)):=by simp[l,hi]
   rw[e3,aI2] at e2
   rw[e1,<- e2]
   exact cJ3 (by rw[he];exact hk)
  have hh:∀ c ∈ vals,D2 c=true:=fun c h5=>by
   simp only[vals,dL7] at h5
   obtain ⟨a,_,ha⟩:=h5
   exact (hg a).2 c ha
  have hy:(l.flatMap fun a=>(g a).map D.sc)=vals.map D.sc:=by simp only[vals,List.map_flatMap]
  refine ⟨l,?_,rfl,by rw[h9];exact dJ2 (dC6 _ hl) hu⟩
  rw[hy,h9]
  simp only[f9,A1]
  refine .inl ⟨⟨b,o,none⟩,cap,rfl,trivial,?_,?_,by omega⟩
  ·unfold I4 B5
   rw[aO9 (by rw[bA6];omega)]
   exact hl
  ·have:=GY (W:=uX (J2 W)) (α:=Value) D.sc (fun v=>v) vals ⟨b,o,none⟩ (fun k hk=>?_) (fun c h5=>by simp only[A1];exact ⟨trivial,hh c h5⟩)
   ·exact this
   ·have hz:=hw k hk
    have hd:=hh vals[k] (cN3 hk)
    have:=aQ7 hz (V0 0 _ hd) (aD8 hd)
    rw[aD8 hd] at this
    exact this
theorem UU {α:Type} [Inhabited α] {g:α->List Value} {q b:Nat} (hq:0<q) (hg:∀ a,(g a).length=q/\∀ c ∈ g a,D2 c=true) {t e:TypeId} {v:Value} {d:DataW H} {ps:List MemPlace} (ht:P.underlying t=some (.slice e)) (hc:P.cellsOf e=q) (h6:0<P.bytesOf e)
  (hv:Value.okWide P W .any b t v) (h:DataW.Trod enc P W base (fun _=>true) h0 t v d ps) (h7:∀ n ∈ d.weights P t,n<=reachBytes)
  (h8:∀ (cs:List Value) (n:Nat) (y:DataW H × List MemPlace),cs.length=q->DataW.trod enc P W base (fun _=>true) h0 n e cs=some y->∃ a,cs=g a):
  ∃ l:List α,f9 (uX (J2 W)) (.sl 3 l.length (l.flatMap fun a=>(g a).map D.sc)) v/\x9 0 v= []/\l.length*P.bytesOf e<=reachBytes:=by
 have g0:=pH (by simp[ht]) (by simp[ht]) hv
 obtain ⟨n,hn⟩:=h
 have h4:v.cells.toList= [v]:=GE (by
  unfold Value.okWide at hv
  rw[ht] at hv
  simp only[Cell.okWide,ht,Cell.ok] at hv
  cases v<;>first|rfl|(exfalso;simp at hv))
 rw[h4] at hn
 exact CA hq hg ht hc h6 (fun a n c e=>lI (by rw[<- e];exact g0)) hn h7 h8
end
end Go.Itp
namespace Go.Itp
open Go.Lib
set_option linter.unusedVariables false
set_option linter.unusedSimpArgs false

end Go.Itp
namespace Go.Itp
open Go.RowKit (Below)
set_option linter.unusedVariables false
set_option linter.constructorNameAsVariable false
set_option linter.unusedSimpArgs false
def DG:List Value->Option (List ByteArray)
 | []=>some []
 | .string b::r=>(DG r).map (b::·)
 |_=>none
theorem DH:∀ {cs:List Value} {bs:List ByteArray},DG cs=some bs->cs=bs.map Value.string
 | [],bs,h=>by simp[DG] at h;subst h;rfl
 |c::r,bs,h=>by
  unfold DG at h
  split at h
  ·rename_i heq;cases heq
  ·rename_i heq
   simp only[dI9] at heq
   obtain ⟨rfl,rfl⟩:=heq
   simp only[aG4] at h
   obtain ⟨bs',h1,rfl⟩:=h
   rw[DH h1];rfl
  ·cases h
theorem KB:∀ (bs:List ByteArray),DG (bs.map Value.string)=some bs
 | []=>rfl
 |b::r=>by simp only[cJ1,DG,KB r,aX8]
def cS2 (old:Nat->Nat->Option Value):G3:=t8 old 0 (fun _=>none) (fun _ _ _=>none) 0
def aJ9 (bs:List ByteArray) (sep:ByteArray):List UInt8:=Lib.join (bs.map (·.data.toList)) sep.data.toList
def HY (old:Nat->Nat->Option Value) (f0:FuncId) (f:FuncId) (xs:List Value) (s:St):Option (Value × List A0):=
 if Nat.beq f f0 then (match xs with
  | [.slice a n c,.string sep]=>if Nat.beq n 0 then some (.string ⟨#[]⟩,[]) else if Nat.ble n (B5 c) && Nat.ble n s9 then
    (s6 (cS2 old) s.heap 1 n (.slice a n c)).bind fun cs=>(DG cs).bind fun bs=>if Nat.ble (aJ9 bs sep).length 140737488355328 then some (.string ⟨(aJ9 bs sep).toArray⟩,[]) else none
   else none
  |_=>none) else none
section
variable {P:Program} {G:A7} {μ:Mu} {s:St} {w:World}
theorem WZ:∀ {bs:List ByteArray} {cs:List Value},G4 μ (bs.map Value.string)=some cs->cs=bs.map Value.string
 | [],cs,h=>by simp[G4] at h;subst h;rfl
 |b::r,cs,h=>by
  simp only[cJ1,G4,tr,aI2,aG4] at h
  obtain ⟨cs',h1,rfl⟩:=h
  rw[WZ h1];rfl
theorem bK8 {old:Nat->Nat->Option Value} {f0:FuncId} {w0:World} (h9:yA P f0) (hh:bX (cS2 old) w0)
  (h0:∀ (a:Option Addr) (c:Nat) (sep:ByteArray) (w:World),Calls P f0 #[.slice a 0 c,.string sep] w fun e w'=>e= .returned (.string ⟨#[]⟩)/\w'=w)
  (h1:∀ (bk o c:Nat) (xs:List ByteArray) (sep:ByteArray) (w:World) (_:∀ (j:Nat) x,xs[j]? =some x->w.cell? ⟨bk,o+j,none⟩=some (.string x))
   (_:bk<w.heap.size) (_:xs.length<=140737488355328) (_:xs.length<=c) (_:(Lib.join (xs.map (·.data.toList)) sep.data.toList).length<=140737488355328),
   Calls P f0 #[.slice (some ⟨bk,o,none⟩) xs.length c,.string sep] w fun e w'=>e= .returned (.string ⟨(Lib.join (xs.map (·.data.toList)) sep.data.toList).toArray⟩)/\Below w.heap.size w w'):X2 P (HY old f0) w0:=by
 intro f xs s v bs h G μ w cs hG hr hx
 unfold HY at h
 split at h
 case isFalse=>cases h
 rename_i hf
 have:=j9.1 hf
 subst this
 split at h
 case h_2=>cases h
 rename_i a n c sep
 simp only[G4,aG3,aG4] at hx
 obtain ⟨x1,h5,cs1,⟨x2,h6,cs2,ha,rfl⟩,rfl⟩:=hx
 simp at ha
 subst ha
 have:x2= .string sep:=by simp[tr] at h6;exact h6.symm
 subst this
 obtain ⟨qa,k',rfl,e2,e3⟩:=G9 h5
 split at h
 ·rename_i hn
  have:=j9.1 hn
  subst this
  simp only[aJ7,aS6] at h
  obtain ⟨rfl,rfl⟩:=h
  exact eH h9 hr ((h0 qa k' sep w).mono fun e w' ⟨he,hw⟩=>⟨he,hw▸Below.refl _ _⟩) rfl
 rename_i hn
 have hn:n ≠ 0:=fun e=>hn (j9.2 e)
 split at h
 case isFalse=>cases h
 rename_i hc
 rw[aO3,bA2,bA2] at hc
 obtain ⟨hc,hi⟩:=hc
 simp only[aG3] at h
 obtain ⟨vs,h3,ls,hk,h⟩:=h
 split at h
 case isFalse=>cases h
 rename_i h7
 rw[bA2] at h7
 simp only[aJ7,aS6] at h
 obtain ⟨rfl,rfl⟩:=h
 cases a with
 |none=>
  simp only[s6] at h3
  rw[aQ4 (fun e=>hn (j9.1 e))] at h3
  cases h3
 |some a=>
 simp only[s6,dK7] at h3
 obtain ⟨bk,o,rfl⟩:=G8 e2
 obtain ⟨cs,c1,c2,c3⟩:=hr.loadN (by rw[hG];exact hh) h3 e2
 have ho:=DH hk
 subst ho
 have hq:=WZ c1
 subst hq
 rw[cZ0] at c2
 subst c2
 have hd:∀ (j:Nat) x,ls[j]? =some x->w.cell? ⟨bk,o+j,none⟩=some (.string x):=fun j x hj=>by
  have:=c3 j (.string x) (by rw[dK9,hj];rfl)
  have e:(⟨bk,o,none⟩:Addr).add j=⟨bk,o+j,none⟩:=by cases j<;>rfl
  rw[e] at this
  exact this
 have h8:ls.length<=k':=by
  rw[H0] at hc
  obtain ⟨b,oo,sp⟩:=a
  cases sp with
  |none=>
   simp only[cA,aJ7] at e3
   subst e3
   split at hc<;>omega
  |some sp=>
   simp only[cA] at e3
   split at e3
   ·rename_i h;simp only[aJ7] at e3;subst e3;rw[aO9 h] at hc;exact hc
   ·rename_i h
    rw[aQ4 h] at hc
    simp only[aG4] at e3
    obtain ⟨l,_,rfl⟩:=e3
    omega
 have ht:bk<w.heap.size:=by
  have:=hd 0 ls[0]! (by rw[bA7 ls 0 (by omega)];exact cJ3 (by omega))
  exact World.block_lt_of_cell? _ _ this
 exact eH h9 hr (h1 bk o k' ls sep w hd ht (by unfold s9 at hi;omega) h8 h7) rfl
end
theorem OJ {E E':G3} (h:E.old=E'.old) (hp:o7) (e n:Nat) (x:Value):s6 E hp e n x=s6 E' hp e n x:=by
 have hN:∀ b m o,uC E b o m=uC E' b o m:=fun b m=>by
  induction m with
  |zero=>intro o;rfl
  |succ m ih=>intro o;simp only[uC,h,ih]
 unfold s6
 split
 ·rename_i a _ _
  unfold I9
  split
  ·exact hN _ _ _
  ·rfl
  ·rfl
 all_goals rfl
def sD (x:List UInt8):D:= .sc (.string ⟨x.toArray⟩)
theorem P3 (x:List UInt8):dv (sD x)= .sc (.string ⟨x.toArray⟩):=(rfl)
theorem WP {w:VW}:∀ {ls:List (List UInt8)} {vs:List Value},m6 w (ls.map sD) vs->vs=(ls.map fun x=>ByteArray.mk x.toArray).map Value.string
 | [],vs,h=>by simpa only[dL9,m6] using h
 |x::r,vs,h=>by
  simp only[cJ1,m6,sD,A1] at h
  obtain ⟨v,vs',rfl,⟨rfl,_⟩,h2⟩:=h
  rw[WP h2];rfl
section
variable {old:Nat->Nat->Option Value} {rounds:Nat} {fns:FuncId->Option p8} {prims:FuncId->List Value->St->Option (Value × List A0)} {n:Nat} {f:FuncId}
theorem cC1 (ls:List (List UInt8)) (sep:List UInt8):aJ9 (ls.map fun x=>ByteArray.mk x.toArray) ⟨sep.toArray⟩=Lib.join ls sep:=by
 unfold aJ9
 congr 1
 rw[List.map_map]
 exact (List.map_congr_left (fun x _=>by simp)).trans (List.map_id _)
theorem cS9 {st:n9} (s:Nat) (hs:s ≠ 1) (ls:List (List UInt8)) (sep:List UInt8) (hl:ls.length<=1099511627776) (h7:(Lib.join ls sep).length<=140737488355328) (hp:∀ xs s r,HY old f f xs s=some r->prims f xs s=some r):
  E7 (t8 old rounds fns prims (n+1)) f st [.sl s ls.length (ls.map sD),.sc (.string ⟨sep.toArray⟩)] (.sc (.string ⟨(Lib.join ls sep).toArray⟩)):=by
 intro s1 μ F xsI w0 h4 hx
 simp only[i6] at hx
 obtain ⟨x1,_,rfl,h5,x2,_,rfl,h6,rfl⟩:=hx
 have hg:=h5
 have:=h6.scv
 subst this
 refine ⟨.string ⟨(Lib.join ls sep).toArray⟩,?_,fun w=> .mksc rfl⟩
 have hu:HY old f f [x1,.string ⟨sep.toArray⟩] s1=some (.string ⟨(Lib.join ls sep).toArray⟩,[]):=by
  unfold HY
  rw[aO9 (j9.2 rfl)]
  simp only[f9,A1] at hg
  rcases hg with ⟨a,c,rfl,_,h8,_,_⟩|⟨_,h0,h1,rfl|⟨h,_⟩⟩
  ·simp only
   by_cases hn:ls.length=0
   ·rw[aO9 (j9.2 hn)]
    have:ls= []:=bA8 hn
    subst this
    rfl
   rw[aQ4 (fun e=>hn (j9.1 e))]
   rw[aO9 (by rw[aO3,bA2,bA2];exact ⟨h8,by unfold s9;exact hl⟩)]
   obtain ⟨cs,k1,k2⟩:=(Y5 (e:=1) (m:=ls.length) (r:=(ls.map sD,[])) h4.hr h5 (by
    simp only[M6]
    rw[aO9 ⟨by simp,aQ5 _⟩,dK7,cS6 (by simp)]) (fun m hm=>by simp only[T6] at hm;cases hm;exact aQ5 _)).plain h4.hr rfl
   rw[OJ (E':=cS2 old) (by rfl)] at k1
   rw[k1]
   have:=WP k2
   subst this
   simp only[aI2,KB,cC1]
   rw[aO9 (by rw[bA2];exact h7)]
  ·simp only
   rw[aO9 (j9.2 rfl)]
   have:ls= []:=by simpa using h1
   subst this
   rfl
  ·exact absurd h hs
 rw[K0,hp _ _ _ hu]
end
theorem join_one (c:UInt8):∀ ws:List (List UInt8),Lib.join ws [c]=join c ws
 | []=>rfl
 | [w]=>by rw[Lib.join_one];rfl
 |w::v::ws=>by
  have:=join_one c (v::ws)
  rw[Lib.join_cons] at this ⊢
  rw[join,<- this]
  simp[Lib.joinTail]
theorem m0.ofO {E:G3} {f:FuncId} {xs:List V} {v:V} (h:E7 E f ⟨[],0,0⟩ xs v):m0 E f xs v ⟨[],0,0⟩:=by
 intro s F xsI h1 h2 hx
 have h4:SR (C1 E s (YG E s.heap F)) ⟨[],0,0⟩ ⟨s.heap,s.next,s.next⟩ (fun _=>none) F:=SR.start h1 h2
 obtain ⟨vI,e,hv⟩:=h s (fun _=>none) F xsI (YG E s.heap F) h4 hx
 exact ⟨vI,[],fun _=>none,F,e,h4,hv _,fun b hb=> .inl hb,fun b hb=>hb,fun _=>rfl⟩
end Go.Itp
namespace Go.Itp
set_option maxRecDepth 100000
set_option linter.unusedVariables false
set_option linter.unusedSimpArgs false
section
variable {old : Nat → Nat → Option Value} {fr : D0} {H : E9} {nx : Nat} {st : n9}
def itO (s : ByteArray) (pos : Nat) : Obj := .row (pF s pos) 0 false false []
def aN5 (nx : Nat) : V → VO
  | .sc (.string b) => if Nat.ble b.size s9 then some (.ptr nx 0, some (itO b 0), []) else none
  | _ => none
theorem JA (x : Operand) : j6 old fr H nx (.rangeS x) = jT (aN5 nx) (s5 fr x) := by
  simp only [j6, jT]
  cases s5 fr x with
  | none => rfl
  | some v => cases v <;> first | rfl | (rename_i c; cases c <;> rfl)
theorem wP (nx : Nat) (b : ByteArray) (h : b.size ≤ 1099511627776) : aN5 nx (.sc (.string b)) = some (.ptr nx 0, some (itO b 0), []) := if_pos (by rw [Nat.ble_eq]; unfold s9; exact h)
theorem P1 (x : Operand) : j6 old fr H nx (.nextS x) = none := (rfl)
theorem P5 (fr : D0) (st : n9) (x : Operand) : R8 fr st (.nextS x) = (s5 fr x).bind fun x => oL st x := (rfl)
theorem aC7 (o : Nat) (s : ByteArray) (pos : Nat) (ho : j7 st.own o = some (itO s pos)) (hro : st.ro ≤ o) (h1 : s.size ≤ 1099511627776) (h2 : pos < s.size) :
    oL st (.ptr o 0) = some (.tup [.sc (.bool true), .sc (.int .i64 pos), .sc (.int .i32 (Utf8.decode s pos).1)], ⟨A3 st.own o (itO s (pos + (Utf8.decode s pos).2)), st.next, st.ro⟩) := by
  have hd := iY s pos (by omega)
  simp only [oL, ho, itO]
  rw [if_pos (j9.2 rfl)]
  simp only [hd]
  rw [if_pos (by have : Nat.ble st.ro o = true := by rw [Nat.ble_eq]; exact hro
                 rw [this]; rfl), if_pos (by rw [Nat.ble_eq]; unfold s9; exact h1), if_pos (by rw [Nat.blt_eq]; exact h2)]
theorem aZ2 (o : Nat) (s : ByteArray) (pos : Nat) (ho : j7 st.own o = some (itO s pos)) (hro : st.ro ≤ o) (h1 : s.size ≤ 1099511627776) (h2 : ¬ pos < s.size) (h3 : pos ≤ 2199023255552) :
    oL st (.ptr o 0) = some (.tup [.sc (.bool false)], st) := by
  have hd := iY s pos (by omega)
  simp only [oL, ho, itO]
  rw [if_pos (j9.2 rfl)]
  simp only [hd]
  rw [if_pos (by have : Nat.ble st.ro o = true := by rw [Nat.ble_eq]; exact hro
                 rw [this]; rfl), if_pos (by rw [Nat.ble_eq]; unfold s9; exact h1), if_neg (by rw [Nat.blt_eq]; exact h2)]
end
section
variable {C:C8} {st:n9} {fr:D0}
theorem WC {H:E9} {o t n:Nat} {z:Bool} {l:List D} (h:j7 H o=some (.gro t 1 z l)) (hl:l.length=n):D1 H (.gr 2 o n)=some (.sl 2 n l):=by
 simp only[D1,dS,h,dK7]
 rw[aO9 ⟨hl,by decide,by decide,by decide⟩]
 rfl
end
section
variable {C:C8} {st:n9} {fr:D0}
end
def rS (s:Nat) (l:List Int):D:= .sl s l.length (l.map iD)
section
variable {old:Nat->Nat->Option Value}
end
theorem PL {E:G3} {h:o7} {n:Nat} {bs:List A0} {a:Addr} (ha:a.spot=none\/a.block<n):p9 E (B0 h n bs) a=p9 E h a:=by
 obtain ⟨b,o,sp⟩:=a
 rcases sp with _|_|k
 ·rfl
 ·have hb:b<n:=by simpa using ha
  simp only[p9]
  rw[B3,aQ4 (by omega)]
 ·rfl
theorem m0.weak {E:G3} {f:FuncId} {xs:List V} {v v':V} {st1 st2:n9} (h:m0 E f xs v st1) (hw:∀ C:C8,C.w0.nx=0->K7 C [(0,v)] st1 [(0,v')] st2) (h3:A4 v'=true->A4 v=true):m0 E f xs v' st2:=by
 intro s F xsI hF hb hx
 obtain ⟨vI,bs,μ,G,e,g1,g2,g3,g4,g5⟩:=h s F xsI hF hb hx
 have h4:VW.le (YG E s.heap F) (x8 (C1 E s (YG E s.heap F)) st1 ⟨B0 s.heap s.next bs,s.next+bs.length,s.next⟩ μ G):=by
  refine ⟨fun a ha=>?_,g4,bA5 _,fun o b ho e=>absurd ho (dM7 _)⟩
  refine PL ?_
  rcases bK3 ha with h1|h1
  ·exact .inl h1
  ·exact .inr (hF _ h1).1
 obtain ⟨μ',G',k1,k2,k3,k4,k5⟩:=hw (C1 E s (YG E s.heap F)) rfl ⟨B0 s.heap s.next bs,s.next+bs.length,s.next⟩ [(0,vI)] ⟨μ,G,g1,fun t u hu=>by
  by_cases ht:t=0
  ·subst ht
   have:v=u:=by simpa [j7] using hu
   subst this
   exact ⟨vI,rfl,g2⟩
  ·exfalso
   cases t with
   |zero=>exact ht rfl
   |succ t=>simp[j7] at hu,h4,rfl,g3⟩
 obtain ⟨uI,a,b⟩:=k2 0 v' rfl
 have:vI=uI:=by simpa [I0] using a
 subst this
 exact ⟨vI,bs,μ',G',e,k1,b,k5,fun b hb=>k3.F b hb,fun hf=>g5 (h3 hf)⟩
theorem m0.fin {E:G3} {f:FuncId} {xs:List V} {v v':V} {st1:n9} (h:m0 E f xs v st1) (hs:D1 st1.own v=some v') (h5:D4 st1.ro st1.own (fA v)=true) (h6:st1.ro=0) (h7:Z1 [] v'=v') (h3:A4 v'=true->A4 v=true):m0 E f xs v' ⟨[],0,0⟩:=
 h.weak (fun C h0=>(uZ (t:=0) rfl hs h5).trans (o9 [] 0 h0 h6 rfl (by show xE [] [(0,v')]=_;rw[aW2,bQ2,h7]) rfl)) h3
theorem GD {C:C8} {st:n9} {f:FuncId} {xs:List V} {v:V} {Q:V->n9->Prop} (h:m0 C.E f xs v ⟨[],0,0⟩) (hs:T4 st.own xs=some xs) (hz:S5 xs= []) (hv:∀ k,pX k v=v) (hq:Q v st):T2 C f xs st Q:=by
 refine bE h hs (by rw[hz];rfl) rfl ?_
 rw[hz,hv,O3]
 exact hq
section
variable {C:C8} {st:n9}
theorem eB.refl (v:V):eB C st v v:=fun _ _ _ _ _ h=>h
def yD (C:C8) (st:n9) (l l':List V):Prop:=∀ s μ F vs,SR C st s μ F->i6 (x8 C st s μ F) l vs->i6 (x8 C st s μ F) l' vs
theorem yD.nil:yD C st [] []:=fun _ _ _ _ _ h=>h
theorem yD.cons {a a':V} {l l':List V} (h:eB C st a a') (k:yD C st l l'):yD C st (a::l) (a'::l'):=fun s μ F vs hs hv=>by
 simp only[i6] at hv ⊢
 obtain ⟨u,us,rfl,h1,h2⟩:=hv
 exact ⟨u,us,rfl,h s μ F u hs h1,k s μ F us hs h2⟩
end
theorem m0.same {E:G3} {f:FuncId} {xs:List V} {v v':V} {st1:n9} (h:m0 E f xs v st1) (hv:∀ C:C8,eB C st1 v v') (h3:A4 v'=true->A4 v=true):m0 E f xs v' st1:=
 h.weak (fun C _=>gY (t:=0) (v:=v) (v':=v') rfl (hv C)) h3
theorem cF {C:C8} {E:G3} {f:FuncId} {xs xs':List V} {v:V} {st:n9} {Q:V->n9->Prop} (hC:C.E=E) (h:m0 E f xs' v ⟨[],0,0⟩) (hq:Q v st) (a:T4 st.own xs=some xs':=by exact rfl) (b:A4 v=true:=by exact rfl):T2 C f xs st Q:=m8 (by rw[hC];exact h.flat b a) hq
theorem cN {C:C8} {E:G3} {f:FuncId} {xs:List V} {v:V} {st:n9} {Q:V->n9->Prop} (hC:C.E=E) (h:m0 E f xs v ⟨[],0,0⟩) (hq:Q v st) (a:T4 st.own xs=some xs:=by exact rfl) (b:S5 xs= []:=by exact rfl) (c:∀ k,pX k v=v:=by exact fun _=>rfl):T2 C f xs st Q:=GD (by rw[hC];exact h) a b c hq
theorem vF {w:World} {r:Nat} {fns:FuncId->Option p8} {prims:FuncId->List Value->St->Option (Value × List A0)} {n:Nat} {f:FuncId} {xs:List V} {v:V} {af:p8} (hf:fns f=some af) (h:∀ C:C8,C.E=t8 (J2 w) r fns prims n->C.w0.nx=0->gC C af.code [] (P4 0 xs) ⟨[],0,0⟩ (fC C af.res v ⟨[],0,0⟩))
  (a:af.pure=true:=by exact rfl) (b:∀ xs s,prims f xs s=none:=by exact fun _ _=>rfl) (c:xs.length<=af.n:=by exact cJ5 rfl) (d:A4 v=true:=by exact rfl):m0 (t8 (J2 w) r fns prims (n+1)) f xs v ⟨[],0,0⟩:=dX hf a b c (jC w) d h
theorem vG {w:World} {r:Nat} {fns:FuncId->Option p8} {prims:FuncId->List Value->St->Option (Value × List A0)} {n:Nat} {f:FuncId} {xs:List V} {v:V} {st1:n9} {af:p8} (hf:fns f=some af) (hR:nT st1.own v) (h:∀ C:C8,C.E=t8 (J2 w) r fns prims n->C.w0.nx=0->gC C af.code [] (P4 0 xs) ⟨[],0,0⟩ (fC C af.res v st1))
  (a:af.pure=true:=by exact rfl) (b:∀ xs s,prims f xs s=none:=by exact fun _ _=>rfl) (c:xs.length<=af.n:=by exact cJ5 rfl) (d:st1.ro=0:=by exact rfl):m0 (t8 (J2 w) r fns prims (n+1)) f xs v st1:=aP9 hf a b c (jC w) hR d h
section
variable {old:Nat->Nat->Option Value} {rounds:Nat} {fns:FuncId->Option p8} {prims:FuncId->List Value->St->Option (Value × List A0)} {n:Nat} {f:FuncId} {xs:List V} {af:p8}
theorem bW4 {st0:n9} {t e N c:Nat} {L:List D} (hf:fns f=some af) (h1:af.pure=true) (hp:∀ xs s,prims f xs s=none) (h2:xs.length<=af.n) (h0:∀ d ∈ L,∃ x,d= .sc x)
  (h:∀ C:C8,C.E=t8 old rounds fns prims n->C.w0.nx=st0.next->∃ st1 o,j7 st1.own o=some (.row t e false false L)/\st1.ro<=o/\gC C af.code [] (P4 0 xs) ⟨st0.own,st0.next,st0.next⟩ (fC C af.res (.ref o 0 N c) st1)):
  LG (t8 old rounds fns prims (n+1)) f st0 xs (.ref st0.next 0 N c) (.row t e false false L):=by
 have h3:Q1 L=true:=by
  simp only[Q1,bB3]
  intro d hd
  obtain ⟨x,rfl⟩:=h0 d hd
  rfl
 refine ⟨rfl,rfl,h3,?_⟩
 intro s μ F xsI w0 hs hx
 let C:C8:=⟨t8 old rounds fns prims n,s.next,s.heap,(· <s.next),⟨p9 (t8 old rounds fns prims n) s.heap,F,μ,st0.next⟩,s.next⟩
 have h4:SR C ⟨st0.own,st0.next,st0.next⟩ ⟨s.heap,s.next,s.next⟩ μ F:=hs.env (X3 _ _) rfl rfl rfl
 obtain ⟨st1,o,ho,h5,h⟩:=h C rfl rfl
 have h6:i6 (x8 C ⟨st0.own,st0.next,st0.next⟩ ⟨s.heap,s.next,s.next⟩ μ F) xs xsI:=by
  show i6 ⟨p9 (t8 old rounds fns prims n) s.heap,F,μ,st0.next⟩ xs xsI
  rw[X3 n (n+1)];exact hx
 obtain ⟨vI,sf,h7,μ',G,g1,g2,g3,g4,g5⟩:=sU (C:=C) (s:=⟨s.heap,s.next,s.next⟩) h2 h ⟨_,F,h4,bR 0 h6,VW.le.refl _,rfl,fun b hb=> .inl hb⟩ hx.length
 obtain ⟨b,blk,m1,m2,m3⟩:=g1.obj o _ ho rfl
 simp only[f9] at g2
 obtain ⟨_,h8,b',rfl,q⟩:=g2
 have:=q b m1
 subst this
 have hb:s.next<=b':=by
  have:=g1.pb o b' m1 h5
  rw[g4] at this
  exact this
 obtain ⟨r1,r2,r3⟩:=qN m3.2.2.2 h0
 refine ⟨.slice (some ⟨s.next,0,some 0⟩) N c,blk,?_,fun w k1 k2=>⟨?_,m3.1,m3.2.1,m3.2.2.1,r3 w⟩⟩
 ·simp only[K0,hp,hf,aI2,h1,if_true]
  rw[show body (t8 old rounds fns prims n) af xsI ⟨s.heap,s.next,s.next⟩=some (.slice (some ⟨b',0,some 0⟩) N c,sf) from h7]
  exact cB7 m2 hb r1 r2
 ·simp only[f9]
  exact ⟨k1,h8,s.next,rfl,fun b hb=>by rw[k2] at hb;cases hb;rfl⟩
end
theorem ME {s:ByteArray} {i:Nat} (h:(s.get! i).toNat<128):Utf8.decode s i=((s.get! i).toNat,1):=by
 unfold Utf8.decode
 simp only[cZ5]
 rw[aO9 h]
theorem dE0 (l:List UInt8) (i:Nat) (h:i<l.length):(ByteArray.mk l.toArray).get! i=l[i]! :=by
 have h1:(ByteArray.mk l.toArray).size=l.length:=by simp[ByteArray.size]
 show l.toArray[i]! =l[i]!
 simp
theorem bB6 (p r:List UInt8) (b:UInt8):(p++b::r)[p.length]! =b:=by
 rw[bA7 _ _ (by simp),List.getElem_append_right (aQ5 _)]
 simp
theorem aJ2 (s p r:List UInt8) (b:UInt8) (hs:s=p++b::r):(ByteArray.mk s.toArray).get! p.length=b:=by
 rw[dE0 s p.length (by rw[hs];simp),hs,bB6]
theorem BE (s p r:List UInt8) (b:UInt8) (hs:s=p++b::r) (hb:b.toNat<128) (hl:s.length<=100000) (H:E9) (nx o:Nat) (ho:j7 H o=some (itO ⟨s.toArray⟩ p.length)):
  oL ⟨H,nx,0⟩ (.ptr o 0)=some (.tup [.sc (.bool true),.sc (.int .i64 p.length),.sc (.int .i32 b.toNat)],⟨A3 H o (itO ⟨s.toArray⟩ (p.length+1)),nx,0⟩):=by
 have h0:=B1 s
 have h2:s.length=p.length+(r.length+1):=by rw[hs];simp
 have hd:=ME (s:=⟨s.toArray⟩) (i:=p.length) (by rw[aJ2 s p r b hs];exact hb)
 rw[aJ2 s p r b hs] at hd
 have:=aC7 (st:=⟨H,nx,0⟩) o ⟨s.toArray⟩ p.length ho (bA5 _) (by omega) (by omega)
 rw[hd] at this
 exact this
theorem TP (s:List UInt8) (hl:s.length<=100000) (H:E9) (nx o:Nat) (ho:j7 H o=some (itO ⟨s.toArray⟩ s.length)):oL ⟨H,nx,0⟩ (.ptr o 0)=some (.tup [.sc (.bool false)],⟨H,nx,0⟩):=by
 have h0:=B1 s
 exact aZ2 (st:=⟨H,nx,0⟩) o ⟨s.toArray⟩ s.length ho (bA5 _) (by omega) (by omega) (by omega)
set_option linter.constructorNameAsVariable false
structure wZ (f:Nat->V) (ob:Obj) (N:Nat) (L:List D):Prop where
 how:(∃ t,ob= .gro t 1 false L/\f=(fun o=> .gr 2 o N)/\N ≠ 0/\L ≠ [])\/(∃ t c,ob= .row t 1 false false L/\f=fun o=> .ref o 0 N c)
 len:L.length=N
 sc:∀ d ∈ L,∃ x,d= .sc x
theorem wZ.gr {t N:Nat} {L:List D} (h:N ≠ 0) (hl:L.length=N) (hs:∀ d ∈ L,∃ x,d= .sc x):wZ (fun o=> .gr 2 o N) (.gro t 1 false L) N L:=⟨.inl ⟨t,rfl,rfl,h,fun e=>h (by rw[<- hl,e];rfl)⟩,hl,hs⟩
theorem wZ.ref {t N c:Nat} {L:List D} (hl:L.length=N) (hs:∀ d ∈ L,∃ x,d= .sc x):wZ (fun o=> .ref o 0 N c) (.row t 1 false false L) N L:=⟨.inr ⟨t,c,rfl,rfl⟩,hl,hs⟩
section
variable {f:Nat->V} {ob:Obj} {N:Nat} {L:List D}
theorem wZ.facts (h:wZ f ob N L):ob.none=false/\ob.fz=false/\ob.ok=true:=by
 have h4:Q1 L=true:=by
  simp only[Q1,bB3]
  intro d hd
  obtain ⟨x,rfl⟩:=h.sc d hd
  rfl
 rcases h.how with ⟨t,rfl,rfl,h1,h2⟩|⟨t,c,rfl,rfl⟩
 ·exact ⟨by cases L with|nil=>exact absurd rfl h2|cons=>rfl,rfl,h4⟩
 ·exact ⟨rfl,rfl,h4⟩
theorem wZ.row (h:wZ f ob N L) {H:E9} {ro o:Nat} {r:List Nat} (ho:j7 H o=some ob) (h3:ro<=o) (hr:D4 ro H r=true):D4 ro H (o::r)=true:=by
 rcases h.how with ⟨t,rfl,rfl,h1,h2⟩|⟨t,c,rfl,rfl⟩
 ·exact aW8 ro H o _ _ _ _ r ho h3 hr
 ·exact aW9 ro H o _ _ _ _ _ r ho h3 hr
theorem wZ.one (h:wZ f ob N L) (o:Nat):dM (f o)=true:=by
 rcases h.how with ⟨t,rfl,rfl,h1,h2⟩|⟨t,c,rfl,rfl⟩<;>rfl
theorem wZ.val (h:wZ f ob N L) {C:C8} {st:n9} {s:St} {μ:Nat->Option Nat} {F:Nat->Prop} {o:Nat} {uI:Value} (h5:SR C st s μ F) (ho:j7 st.own o=some ob) (h3:st.ro<=o) (hv:f9 (x8 C st s μ F) (f o) uI):
  ∃ b blk c,μ o=some b/\s.prot<=b/\i7 s.heap b=some blk/\(∀ n,B8 n blk.cells= [])/\uI= .slice (some ⟨b,0,some 0⟩) N c/\(∀ (w:VW) (o' b':Nat),o'<w.nx->w.μ o'=some b'->f9 w (f o') (.slice (some ⟨b',0,some 0⟩) N c))/\∀ w,kB w ob blk:=by
 obtain ⟨b,blk,m1,m2,m3⟩:=h5.obj o _ ho h.facts.1
 have hb:s.prot<=b:=h5.pb o b m1 h3
 rcases h.how with ⟨t,rfl,rfl,h1,h2⟩|⟨t,c,rfl,rfl⟩
 ·obtain ⟨r1,r2,r3⟩:=qN m3.2.2.2 h.sc
  simp only[f9] at hv
  obtain ⟨_,⟨h0,_⟩|⟨_,b',rfl,q⟩⟩:=hv
  ·exact absurd h0 h1
  have:=q b m1
  subst this
  refine ⟨b',blk,A5+N,m1,hb,m2,r1,rfl,fun w o' b'' k1 k2=>?_,fun w=>⟨m3.1,m3.2.1,m3.2.2.1,r3 w⟩⟩
  simp only[f9]
  exact ⟨k1,.inr ⟨h1,b'',rfl,fun b hb=>by rw[k2] at hb;cases hb;rfl⟩⟩
 ·obtain ⟨r1,r2,r3⟩:=qN m3.2.2.2 h.sc
  simp only[f9] at hv
  obtain ⟨_,h6,b',rfl,q⟩:=hv
  have:=q b m1
  subst this
  refine ⟨b',blk,c,m1,hb,m2,r1,rfl,fun w o' b'' k1 k2=>?_,fun w=>⟨m3.1,m3.2.1,m3.2.2.1,r3 w⟩⟩
  simp only[f9]
  exact ⟨k1,h6,b'',rfl,fun b hb=>by rw[k2] at hb;cases hb;rfl⟩
end
section
variable {old:Nat->Nat->Option Value} {rounds:Nat} {fns:FuncId->Option p8} {prims:FuncId->List Value->St->Option (Value × List A0)} {n:Nat} {f:FuncId} {xs:List V} {af:p8}
end
section
variable {C:C8} {st:n9} {fr:D0}
theorem uP {H:E9} {o n c t e:Nat} {g z:Bool} {l:List D} (h:j7 H o=some (.row t e g z l)) (hl:l.length=n*e):D1 H (.ref o 0 n c)=some (.sl 0 n l):=by
 simp only[D1,dS,h]
 rw[aO9 (by omega),dD7,cS6 (by omega)]
 rfl
theorem bR7 {o n c t e:Nat} {g:Bool} {l:List D} (ho:j7 st.own o=some (.row t e g true l)) (hl:l.length=n*e):eB C st (.ref o 0 n c) (.sl 0 n l):=by
 intro s μ F u h1 hv
 refine xV (w:=x8 C st s μ F) (w1:=x8 C st s μ F) h1.hr (VW.le.refl _) rfl rfl hv (uP ho hl) (fun j hj b e=>?_) (fun j hj b e k sp blk hb=>fE (E:=C.E) hb)
 simp only[fA,cZ2] at hj
 subst hj
 exact h1.fz j _ b ho e rfl
theorem XY {o g t e k:Nat} {l:List V} {u u':V} {ob ob':Obj} (ho:j7 st.own o=some (.box t e l)) (hk:l[k]? =some u) (hg:j7 st.own g=some ob) (hb:ob.froz=ob') (h0:o ≠ g) (hs:eB C ⟨D7 [g] st.own,st.next,st.ro⟩ u u') (h3:D4 st.ro st.own [g]=true):
  K7 C fr st fr ⟨A3 (D7 [g] st.own) o (.box t e (l.set k u')),st.next,st.ro⟩:=by
 have h2:j7 (D7 [g] st.own) o=some (.box t e l):=by
  have:¬ p5 o [g]=true:=fun h=>h0 (by simpa using (m7 _ _).1 h)
  rw[S4,ho,aX8,aQ4 this]
 refine (XX h3).trans ?_
 exact uY (st:=⟨D7 [g] st.own,st.next,st.ro⟩) h2 hk hs
end
end Go.Itp
namespace Go.Itp
open Go.RowKit (Below)
set_option linter.unusedVariables false
set_option linter.unusedSimpArgs false
def GR (st:n9) (n o k:Nat) (ys:List V):Option Obj->Option (V × n9 × S1)
 |some (.box t e l)=>if Nat.ble st.ro o && Nat.beq ys.length n && bR9 ys then (F8 l k ys).map fun l=>(.tup [],⟨A3 st.own o (.box t e l),st.next,st.ro⟩,⟨[o],[o],[],false,false⟩) else none
 |some (.row t e g false l)=>if Nat.ble st.ro o && Nat.beq ys.length n && !Nat.beq n 0 then (OF ys).bind fun ds=>(F8 l k ds).map fun l=>(.tup [],⟨A3 st.own o (.row t e g false l),st.next,st.ro⟩,⟨[o],[o],[],false,false⟩) else none
 |some (.gro t e false l)=>if Nat.ble st.ro o && Nat.beq ys.length n && !Nat.beq n 0 then (OF ys).bind fun ds=>(F8 l k ds).map fun l=>(.tup [],⟨A3 st.own o (.gro t e false l),st.next,st.ro⟩,⟨[o],[o],[],false,false⟩) else none
 |_=>none
theorem iP (st:n9) (n o k:Nat) (ys:List V):iO st n (some (.ptr o k)) (some (.agg ys))=GR st n o k ys (j7 st.own o):=by
 simp only[iO]
 cases j7 st.own o with
 |none=>rfl
 |some ob=>cases ob with
  |box=>rfl
  |row t e g z l=>cases z<;>rfl
  |gro t e z l=>cases z<;>rfl
end Go.Itp
namespace Go.Itp
set_option linter.unusedVariables false
set_option linter.unusedSimpArgs false
section
variable {C:C8} {st:n9} {fr:D0}
theorem YA {o t e:Nat} {l:List D} (h:j7 st.own o=some (.row t e false false l)):K7 C fr st fr ⟨A3 st.own o (.box t e (sM l)),st.next,st.ro⟩:=by
 rintro s frI ⟨μ,F,h1,hf,h3⟩
 have h0:∀ i ob,j7 (A3 st.own o (.box t e (sM l))) i=some ob->(i=o/\ob= .box t e (sM l))\/(i ≠ o/\j7 st.own i=some ob):=fun i ob e'=>by
  rw[H7 _ _ _ _ _ h] at e'
  split at e'
  ·rename_i hi;cases e';exact .inl ⟨hi,rfl⟩
  ·rename_i hi;exact .inr ⟨hi,e'⟩
 refine ⟨μ,F,⟨?_,?_,?_,h1.inj,?_,h1.lt,h1.cl,h1.un,h1.n0,?_,h1.hb,h1.pr,h1.pb⟩,hf,h3⟩
 ·intro i ob e' hn
  rcases h0 i ob e' with ⟨rfl,rfl⟩|⟨hi,e1⟩
  ·obtain ⟨b,blk,m1,m2,m3⟩:=h1.obj i _ h rfl
   exact ⟨b,blk,m1,m2,m3.1,m3.2.1,m3.2.2.1,xP m3.2.2.2⟩
  ·exact h1.obj i ob e1 hn
 ·intro i ob b e' e2 hz
  rcases h0 i ob e' with ⟨rfl,rfl⟩|⟨hi,e1⟩
  ·exact h1.wr i _ b h e2 rfl
  ·exact h1.wr i ob b e1 e2 hz
 ·intro i ob b e' e2 hz
  rcases h0 i ob e' with ⟨rfl,rfl⟩|⟨hi,e1⟩
  ·cases hz
  ·exact h1.fz i ob b e1 e2 hz
 ·intro i b e'
  obtain ⟨d1,d2,ob,d3,d4⟩:=h1.dom i b e'
  by_cases hi:i=o
  ·subst hi;exact ⟨d1,d2,_,by simp only;rw[H7 _ _ _ _ _ h,aO9 rfl],rfl⟩
  ·exact ⟨d1,d2,ob,by simp only;rw[H7 _ _ _ _ _ h,aQ4 hi];exact d3,d4⟩
 ·intro i ob e'
  rcases h0 i ob e' with ⟨rfl,rfl⟩|⟨hi,e1⟩
  ·exact ⟨(h1.own i _ h).1,rfl⟩
  ·exact h1.own i ob e1
end
theorem MC (st:n9) (o t e:Nat) (w0 w1 w2 w3 w4 w5 w6 w7 w8:V) (a b c d f g h i j:Value) (h2:st.ro<=o):GR st 9 o 0 [.sc a,.sc b,.sc c,.sc d,.sc f,.sc g,.sc h,.sc i,.sc j] (some (.box t e [w0,w1,w2,w3,w4,w5,w6,w7,w8]))=some (.tup [],⟨A3 st.own o (.box t e [.sc a,.sc b,.sc c,.sc d,.sc f,.sc g,.sc h,.sc i,.sc j]),st.next,st.ro⟩,⟨[o],[o],[],false,false⟩):=by
 simp only[GR]
 rw[aO9 (by simp[bR9,h2])]
 rfl
section
variable {C:C8} {K:List KF} {fr:D0} {st:n9} {P:B9}
theorem oS {f:FuncId} {vs:List V} {H:E9} {nx:Nat} {Q0:V->List Obj->Prop} {Q:V->Prop} {v:V} {p r:Prop} (hp:p) (hr:r) (h:m0 C.E f vs v ⟨[],0,0⟩) (hs:T4 st.own vs=some vs) (hz:S5 vs= []) (hv:∀ k,pX k v=v) (hQ:Q v):vB C f vs H nx Q0 (p/\r/\bA9 C f vs st Q):= .inr ⟨hp,hr,cB4 h hs hz hv hQ⟩
theorem ZO (tail:List l5) (ks:List Nat):gT C [] tail ks K fr st P=gO C tail ks K fr st P:=(rfl)
def gTV (C:C8) (v:Option V) (d:Option Nat) (l:List l5) (tail:List l5) (ks:List Nat) (K:List KF) (fr:D0) (st:n9) (P:B9):Prop:=match v with|some v=>gT C l tail ks K (u7 fr d v) st P|none=>False
theorem SN (v:V) (d:Option Nat) (l:List l5) (tail:List l5) (ks:List Nat):gTV C (some v) d l tail ks K fr st P=gT C l tail ks K (u7 fr d v) st P:=(rfl)
theorem bJ7 (d:Option Nat) (x:Operand) (l:List l5) (tail:List l5) (ks:List Nat):gT C (⟨d,none,.mov x⟩::l) tail ks K fr st P=gTV C (s5 (A8 (c7 [x]) fr) x) d l tail ks K fr st P:=by
 simp only[gT,gTV,wpT,OM,true_and,W4,c8,aA7]
 cases s5 (A8 (c7 [x]) fr) x<;>rfl
theorem bJ6 (d:Option Nat) (x:Operand) (i:Nat) (l:List l5) (tail:List l5) (ks:List Nat):gT C (⟨d,none,.ext x i⟩::l) tail ks K fr st P=gTV C (jT (bH3 i) (s5 (A8 (c7 [x]) fr) x)) d l tail ks K fr st P:=by
 simp only[gT,gTV,wpT,OM,true_and,W4,c8,aA6]
 cases jT (bH3 i) (s5 (A8 (c7 [x]) fr) x)<;>rfl
theorem RY {d:Option Nat} {t:Nat} {g:FuncId} {xs:List Operand} {conc:List Nat} {l:List sL} {rs:List S1} {tail:List l5} {ks:List Nat} {args:List V} {v:V} (ht:j7 fr t=some (.sc (.bool true))) (h:E7 C.E g st args v) (ha:V3 (A8 (c7 (c8 (.callF g xs))++ [t]) fr) xs=some args) (hf:zW rs conc=true)
  (hk:jB rs ⟨[],[],[],true,false⟩ conc=true) (hq:gD C l (rs++ [⟨[],[],[],true,false⟩]) tail ks K (u7 fr d v) st P):gD C (⟨⟨d,some (t,true),.callF g xs⟩,conc,some []⟩::l) rs tail ks K fr st P:=by
 unfold gD at hq ⊢
 simp only[wpD,ht]
 exact ⟨rfl,hf,args,v,ha,h,hk,hq⟩
theorem AE {d:Option Nat} {t:Nat} {g:FuncId} {xs:List Operand} {conc:List Nat} {hint:Option (List Nat)} {l:List sL} {rs:List S1} {tail:List l5} {ks:List Nat} (ht:j7 fr t=some (.sc (.bool false)))
  (hq:gD C l (rs++ [⟨[],[],[],false,false⟩]) tail ks K (u7 fr d (.tup [])) st P):gD C (⟨⟨d,some (t,true),.callF g xs⟩,conc,hint⟩::l) rs tail ks K fr st P:=by
 unfold gD at hq ⊢
 simp only[wpD,ht]
 exact hq
end
end Go.Itp
namespace Go.Itp
open Go Go.ChangeShapes
set_option linter.unusedVariables false
set_option linter.unusedSimpArgs false
section
variable {H:Type} {enc:TypeId × Value->H} {P:Program} {W:World} {base:Nat} {h7:Bool}
theorem aS1 {e:TypeId} {f0 f1 f2 f3 f4 f5 f6:Field} (he:P.underlying e=some (.struct #[f0,f1,f2,f3,f4,f5,f6])) (o0:f0.offset=0) (o1:f1.offset=1) (o2:f2.offset=2) (o3:f3.offset=3) (o4:f4.offset=4) (o5:f5.offset=5) (o6:f6.offset=6)
  (c0:P.cellsOf f0.type=1) (c1:P.cellsOf f1.type=1) (c2:P.cellsOf f2.type=1) (c3:P.cellsOf f3.type=1) (c4:P.cellsOf f4.type=1) (c5:P.cellsOf f5.type=1) (c6:P.cellsOf f6.type=1)
  (cs:List Value) (n:Nat) (y:DataW H × List MemPlace) (hl:cs.length=7) (h:DataW.trod enc P W base (fun _=>true) h7 n e cs=some y):
  ∃ (m:Nat) (a0 a1 a2 a3 a4 a5 a6:Value),cs= [a0,a1,a2,a3,a4,a5,a6]/\(∃ y,DataW.trod enc P W base (fun _=>true) h7 m f0.type [a0]=some y)/\(∃ y,DataW.trod enc P W base (fun _=>true) h7 m f1.type [a1]=some y)/\(∃ y,DataW.trod enc P W base (fun _=>true) h7 m f2.type [a2]=some y)/\
   (∃ y,DataW.trod enc P W base (fun _=>true) h7 m f3.type [a3]=some y)/\(∃ y,DataW.trod enc P W base (fun _=>true) h7 m f4.type [a4]=some y)/\(∃ y,DataW.trod enc P W base (fun _=>true) h7 m f5.type [a5]=some y)/\∃ y,DataW.trod enc P W base (fun _=>true) h7 m f6.type [a6]=some y:=by
 obtain ⟨a0,a1,a2,a3,a4,a5,a6,rfl⟩:∃ a0 a1 a2 a3 a4 a5 a6,cs= [a0,a1,a2,a3,a4,a5,a6]:=by
  rcases cs with _|⟨a0,_|⟨a1,_|⟨a2,_|⟨a3,_|⟨a4,_|⟨a5,_|⟨a6,_|⟨a7,r⟩⟩⟩⟩⟩⟩⟩⟩<;>simp at hl
  exact ⟨a0,a1,a2,a3,a4,a5,a6,rfl⟩
 cases n with
 |zero=>simp[DataW.trod] at h
 |succ n=>
  unfold DataW.trod at h
  simp only[he] at h
  split at h
  case isFalse=>cases h
  simp only[aG4,List.mapM_cons,List.mapM_nil] at h
  obtain ⟨xs,hx,hd⟩:=h
  simp only[o0,o1,o2,o3,o4,o5,o6,c0,c1,c2,c3,c4,c5,c6,dD7,dL5,dL3,List.take_zero] at hx
  refine ⟨n,a0,a1,a2,a3,a4,a5,a6,rfl,?_⟩
  cases h0:DataW.trod enc P W base (fun _=>true) h7 n f0.type [a0] with
  |none=>simp[h0] at hx
  |some y0=>
  cases h1:DataW.trod enc P W base (fun _=>true) h7 n f1.type [a1] with
  |none=>simp[h0,h1] at hx
  |some y1=>
  cases h2:DataW.trod enc P W base (fun _=>true) h7 n f2.type [a2] with
  |none=>simp[h0,h1,h2] at hx
  |some y2=>
  cases h3:DataW.trod enc P W base (fun _=>true) h7 n f3.type [a3] with
  |none=>simp[h0,h1,h2,h3] at hx
  |some y3=>
  cases h4:DataW.trod enc P W base (fun _=>true) h7 n f4.type [a4] with
  |none=>simp[h0,h1,h2,h3,h4] at hx
  |some y4=>
  cases h5:DataW.trod enc P W base (fun _=>true) h7 n f5.type [a5] with
  |none=>simp[h0,h1,h2,h3,h4,h5] at hx
  |some y5=>
  cases h6:DataW.trod enc P W base (fun _=>true) h7 n f6.type [a6] with
  |none=>simp[h0,h1,h2,h3,h4,h5,h6] at hx
  |some y6=>exact ⟨⟨_,rfl⟩,⟨_,rfl⟩,⟨_,rfl⟩,⟨_,rfl⟩,⟨_,rfl⟩,⟨_,rfl⟩,⟨_,rfl⟩⟩
theorem wf8 {z:Int} (h:(Lit.int .u8 z).wf=true):0<=z/\z<256:=by
 simp[Lit.wf,IntKind.min,IntKind.max,IntKind.signed,IntKind.bits] at h
 omega
end
section
variable {H:Type} {enc:TypeId × Value->H} {P:Program} {W:World} {base:Nat} {h4:Bool}
theorem bF7 {e:TypeId} {f0 f1 f2 f3:Field} (he:P.underlying e=some (.struct #[f0,f1,f2,f3])) (o0:f0.offset=0) (o1:f1.offset=1) (o2:f2.offset=2) (o3:f3.offset=3)
  (c0:P.cellsOf f0.type=1) (c1:P.cellsOf f1.type=1) (c2:P.cellsOf f2.type=1) (c3:P.cellsOf f3.type=1)
  (cs:List Value) (n:Nat) (y:DataW H × List MemPlace) (hl:cs.length=4) (h:DataW.trod enc P W base (fun _=>true) h4 n e cs=some y):
  ∃ (m:Nat) (a0 a1 a2 a3:Value),cs= [a0,a1,a2,a3]/\(∃ y,DataW.trod enc P W base (fun _=>true) h4 m f0.type [a0]=some y)/\(∃ y,DataW.trod enc P W base (fun _=>true) h4 m f1.type [a1]=some y)/\(∃ y,DataW.trod enc P W base (fun _=>true) h4 m f2.type [a2]=some y)/\
   ∃ y,DataW.trod enc P W base (fun _=>true) h4 m f3.type [a3]=some y:=by
 obtain ⟨a0,a1,a2,a3,rfl⟩:∃ a0 a1 a2 a3,cs= [a0,a1,a2,a3]:=by
  rcases cs with _|⟨a0,_|⟨a1,_|⟨a2,_|⟨a3,_|⟨a4,r⟩⟩⟩⟩⟩<;>simp at hl
  exact ⟨a0,a1,a2,a3,rfl⟩
 cases n with
 |zero=>simp[DataW.trod] at h
 |succ n=>
  unfold DataW.trod at h
  simp only[he] at h
  split at h
  case isFalse=>cases h
  simp only[aG4,List.mapM_cons,List.mapM_nil] at h
  obtain ⟨xs,hx,hd⟩:=h
  simp only[o0,o1,o2,o3,c0,c1,c2,c3,dD7,dL5,dL3,List.take_zero] at hx
  refine ⟨n,a0,a1,a2,a3,rfl,?_⟩
  cases h0:DataW.trod enc P W base (fun _=>true) h4 n f0.type [a0] with
  |none=>simp[h0] at hx
  |some y0=>
  cases h1:DataW.trod enc P W base (fun _=>true) h4 n f1.type [a1] with
  |none=>simp[h0,h1] at hx
  |some y1=>
  cases h2:DataW.trod enc P W base (fun _=>true) h4 n f2.type [a2] with
  |none=>simp[h0,h1,h2] at hx
  |some y2=>
  cases h3:DataW.trod enc P W base (fun _=>true) h4 n f3.type [a3] with
  |none=>simp[h0,h1,h2,h3] at hx
  |some y3=>exact ⟨⟨_,rfl⟩,⟨_,rfl⟩,⟨_,rfl⟩,⟨_,rfl⟩⟩
end
end Go.Itp
namespace Go.Itp
open Go Go.ChangeShapes Go.WideShapes Go.ChangeAt Go.RowKit
set_option linter.unusedVariables false
set_option linter.unusedSimpArgs false
section
variable {H:Type} {enc:TypeId × Value->H} {P:Program} {W:World} {base:Nat} {h0:Bool}
theorem dL {α β:Type} {f:α->Option β} {a:α} {l:List α} {ys:List β} (h:(a::l).mapM f=some ys):∃ y r,f a=some y/\l.mapM f=some r/\ys=y::r:=by
 simp only[List.mapM_cons,Option.bind_eq_bind,Option.pure_def] at h
 cases h1:f a with
 |none=>simp[h1] at h
 |some y=>
  cases h2:l.mapM f with
  |none=>simp[h1,h2] at h
  |some r=>simp[h1,h2] at h;exact ⟨y,r,rfl,rfl,h.symm⟩
theorem aC3 {t:TypeId} {fs:List Field} {cs:List Value} {n:Nat} {y:DataW H × List MemPlace} (ht:P.underlying t=some (.struct fs.toArray)) (h:DataW.trod enc P W base (fun _=>true) h0 n t cs=some y):
  ∃ m ys,fs.mapM (fun f=>DataW.trod enc P W base (fun _=>true) h0 m f.type ((cs.drop f.offset).take (P.cellsOf f.type)))=some ys/\y.1.weights P t=DataW.weightsEach P (fs.map (·.type)) (ys.map (·.1)):=by
 cases n with
 |zero=>simp[DataW.trod] at h
 |succ n=>
  unfold DataW.trod at h
  simp only[ht] at h
  split at h
  case isFalse=>cases h
  simp only[aG4] at h
  obtain ⟨xs,hx,hd⟩:=h
  refine ⟨n,xs,hx,?_⟩
  subst hd
  simp only[DataW.weights,ht]
end
end Go.Itp
namespace Go.Itp
set_option linter.unusedVariables false
set_option linter.unusedSimpArgs false
theorem aZ0 {old:Nat->Nat->Option Value} {f:D0} {st:n9} (a x:Operand) (h:Option (List Nat)):V7 old f st (.store 7 a x) h=iO st 7 (s5 f a) (s5 f x):=KM 7 rfl a x h
theorem aR7 {st:n9} {n o k t e:Nat} {ys:List V} {ds l:List D} (h0:st.ro<=o) (hn:n ≠ 0) (h1:ys.length=n) (hd:ds.length=n) (h2:OF ys=some ds) (hk:k+n<=l.length):
  GR st n o k ys (some (.gro t e false l))=some (.tup [],⟨A3 st.own o (.gro t e false (l.take k++ds++l.drop (k+n))),st.next,st.ro⟩,⟨[o],[o],[],false,false⟩):=by
 simp only[GR,h2,aI2]
 rw[aO9 (by simp only[aO3,bA2,cL0,BC];exact ⟨⟨h0,j9.2 h1⟩,hn⟩),fY _ _ _ (by rw[hd];exact hk),hd]
 rfl
theorem ZG (st:n9) (o k t:Nat) (l:List D) (a b c d e f h:Value) (h0:st.ro<=o) (hk:k+7<=l.length):
  GR st 7 o k [.sc a,.sc b,.sc c,.sc d,.sc e,.sc f,.sc h] (some (.gro t 7 false l))=some (.tup [],⟨A3 st.own o (.gro t 7 false (l.take k++ [.sc a,.sc b,.sc c,.sc d,.sc e,.sc f,.sc h]++l.drop (k+7))),st.next,st.ro⟩,⟨[o],[o],[],false,false⟩):=
 aR7 h0 (by decide) rfl rfl rfl hk
theorem bS9 (st:n9) (o k t:Nat) (l:List D) (a b c d e f h:Value) (h0:st.ro<=o) (hk:k+7<=l.length):
  stO st 7 o k (.agg [.sc a,.sc b,.sc c,.sc d,.sc e,.sc f,.sc h]) (some (.gro t 7 false l))=some (.tup [],⟨A3 st.own o (.gro t 7 false (l.take k++ [.sc a,.sc b,.sc c,.sc d,.sc e,.sc f,.sc h]++l.drop (k+7))),st.next,st.ro⟩):=by
 have hv:O5 (.agg [.sc a,.sc b,.sc c,.sc d,.sc e,.sc f,.sc h])=some [.sc a,.sc b,.sc c,.sc d,.sc e,.sc f,.sc h]:=rfl
 simp only[stO,hv,aI2]
 rw[aO9 (show Nat.beq _ 7=true from rfl),aQ4 (by simp only[cB6,LO];exact h0)]
 simp only[nS,xR,dC9,p5,D4,dK1,Bool.or_false]
 rw[aQ4 (by simp)]
 simp only[cM,dS,aI2,aX8]
 rw[fY _ _ _ (by simpa using hk),y9]
 rfl
theorem aU8 {P:Program} {W:World} {t:TypeId} {fs:Array Field} {b:Nat} {l:List Value} {i:Nat} {c:Value} (ht:P.underlying t=some (.struct fs)) (hv:Value.okWide P W .any b t (.agg l.toArray)) (hc:l[i]? =some c):∃ u,Cell.okWide P W .any b u c:=by
 unfold Value.okWide at hv
 rw[ht] at hv
 obtain ⟨cs,e,h1,ts,_,_,h0⟩:=hv
 cases e
 obtain ⟨u,_,hu⟩:=h0 i c (by simpa using hc)
 exact ⟨u,hu⟩
end Go.Itp
namespace Go.Itp
open Go.ChangeShapes Go.WideShapes Go.ChangeAt Go.RowKit
set_option linter.unusedVariables false
set_option linter.unusedSimpArgs false
theorem RB {w:VW}:∀ (L:List D) (a:Addr),(∀ k d,L[k]? =some d->∃ v,w.ld (C6 a k)=some v/\A1 w d v)->A6 w L a
 | [],a,_=>by simp only[A6]
 |d::r,a,h=>by
  simp only[A6]
  refine ⟨?_,RB r _ fun k d' hk=>?_⟩
  ·have:=h 0 d rfl
   simpa [C6] using this
  ·have:=h (k+1) d' hk
   rw[show C6 (C6 a 1) k=C6 a (k+1) from by simp only[C6,dK2,Nat.add_comm 1 k]]
   exact this
theorem bG1 {w:VW} {n:Nat} {l:List D} {v:Value} (h:A1 w (.sl 3 n l) v):A1 w (.sl 1 n l) v:=by
 simp only[A1] at h ⊢
 rcases h with ⟨a,c,e,i,k,r,_⟩|⟨_,h2,h3,h4|⟨h4,_⟩⟩
 ·exact .inl ⟨a,c,e,i,k,r,fun h=>by omega⟩
 ·exact .inr ⟨by omega,h2,h3,.inl h4⟩
 ·omega
section
variable {H:Type} {enc:TypeId × Value->H} {P:Program} {W:World} {base:Nat} {h9:Bool}
theorem bP8 {α:Type} [Inhabited α] {g:α->List Value} {q:Nat} (hq:0<q) (hg:∀ a,(g a).length=q/\∀ c ∈ g a,D2 c=true) {t e:TypeId} {fuel:Nat} {v:Value} {x:DataW H × List MemPlace} (ht:P.underlying t=some (.slice e)) (hc:P.cellsOf e=q) (hd:0<P.bytesOf e)
  (h:DataW.trod enc P W base (fun _=>true) h9 fuel t [v]=some x) (h7:∀ n ∈ x.1.weights P t,n<=reachBytes)
  (he:∀ (cs:List Value) (n:Nat) (y:DataW H × List MemPlace),cs.length=q->DataW.trod enc P W base (fun _=>true) h9 n e cs=some y->∃ a,cs=g a) {b o:Nat} (hr:W.cell? ⟨b,o,none⟩=some v):
  ∃ (l:List α) (u:Value),J2 W b o=some u/\A1 (uX (J2 W)) (.sl 1 l.length (l.flatMap fun a=>(g a).map D.sc)) u/\l.length*P.bytesOf e<=reachBytes:=by
 by_cases h8:∀ a n c,v= .slice (some a) n c->a.spot=none
 ·obtain ⟨l,h1,h2,h3⟩:=CA hq hg ht hc hd h8 h h7 he
  exact ⟨l,v,pJ hr h2,bG1 (by simpa only[f9] using h1),h3⟩
 ·rcases DataW.trod_slice ht h with ⟨h1,_⟩|⟨a,len,cap,elems,rest,n,rfl,h1,rfl,hb,hl,hm,hw,hh,hn,_⟩
  ·simp only[dI9,and_true] at h1
   subst h1
   exact absurd (fun a n c e=>by cases e) h8
  ·simp only[dI9,and_true] at h1
   subst h1
   obtain ⟨hx,hu⟩:=hn rfl
   obtain ⟨b',o',sp⟩:=a
   cases sp with
   |none=>exact absurd (fun a n c e=>by cases e;rfl) h8
   |some s=>
    by_cases hz:cap=0
    ·have hy:len=0:=by omega
     subst hz hy
     refine ⟨[],_,aU9 hr,?_,by simp⟩
     simp only[A1]
     exact .inr ⟨by decide,by trivial,by trivial,.inr ⟨by trivial,_,_,_,rfl⟩⟩
    ·exfalso
     have h5:∃ c,W.cell? (⟨b',o',some s⟩:Addr)=some c:=by
      have go:∀ cs,W.cells? base ((⟨b',o',some s⟩:Addr).add (0*q)) q=some cs->∃ c,W.cell? (⟨b',o',some s⟩:Addr)=some c:=fun cs h6=>by
       obtain ⟨k1,k2⟩:=yX h6
       have:=k2 0 hq
       rw[cJ3 (by omega)] at this
       rw[Nat.zero_mul] at this
       exact ⟨_,this⟩
      by_cases h0:0<len
      ·have:=hh 0 h0
       rw[hc,cJ3 (by omega)] at this
       simp only[aG3] at this
       obtain ⟨cs,h6,_⟩:=this
       exact go cs h6
      ·have:=hu 0 (by omega)
       rw[hc,cJ3 (by omega),show len+0=0 by omega] at this
       simp only[aG3] at this
       obtain ⟨cs,h6,_⟩:=this
       exact go cs h6
     obtain ⟨c,h5⟩:=h5
     simp only[World.cell?] at h5
     split at h5
     ·simp at h5
     ·cases h5
theorem UV {α:Type} [Inhabited α] {g:α->List D} {q:Nat} {Pr:α->Prop} (hq:0<q) (hg:∀ a,(g a).length=q) {t e:TypeId} {fuel:Nat} {v:Value} {x:DataW H × List MemPlace} (ht:P.underlying t=some (.slice e)) (hc:P.cellsOf e=q) (hd:0<P.bytesOf e)
  (h8:∀ a n c,v= .slice (some a) n c->a.spot=none)
  (h:DataW.trod enc P W base (fun _=>true) h9 fuel t [v]=some x) (h7:∀ n ∈ x.1.weights P t,n<=reachBytes)
  (he:∀ (cs:List Value) (n:Nat) (y:DataW H × List MemPlace),cs.length=q->DataW.trod enc P W base (fun _=>true) h9 n e cs=some y->(∀ m ∈ y.1.weights P e,m<=reachBytes)->∀ b o,(∀ j,j<q->W.cell? ⟨b,o+j,none⟩=cs[j]?)->
   ∃ a,Pr a/\∀ j,j<q->∃ d u,(g a)[j]? =some d/\J2 W b (o+j)=some u/\A1 (uX (J2 W)) d u):
  ∃ l:List α,f9 (uX (J2 W)) (.sl 3 l.length (l.flatMap g)) v/\x9 0 v= []/\l.length*P.bytesOf e<=reachBytes/\∀ a ∈ l,Pr a:=by
 rcases DataW.trod_slice ht h with ⟨h1,_⟩|⟨a,len,cap,elems,rest,n,rfl,h1,rfl,hb,hl,hm,hw,hh,hn,_⟩
 ·simp only[dI9,and_true] at h1
  subst h1
  refine ⟨[],?_,rfl,by simp,fun a ha=>by cases ha⟩
  simp only[f9,A1]
  exact .inr ⟨by omega,by trivial,by trivial,.inl (by trivial)⟩
 ·simp only[dI9,and_true] at h1
  subst h1
  have hs:=h8 a len cap rfl
  obtain ⟨b,o,sp⟩:=a
  simp only at hs
  subst hs
  obtain ⟨hx,hu⟩:=hn rfl
  have g0:cap*P.bytesOf e<=reachBytes:=by
   have:=h7 ((elems.length+rest.length)*P.bytesOf e) (by simp[DataW.weights,ht])
   rwa [show elems.length+rest.length=cap by omega] at this
  have g8:cap<=cap*P.bytesOf e:=Nat.le_mul_of_pos_right _ hd
  have g9:reachBytes<A5:=by decide
  have g1:∀ y ∈ elems,∀ m ∈ y.1.weights P e,m<=reachBytes:=fun y g2 m g3=>h7 m (by
   simp only[DataW.weights,ht,bX5,cB1]
   right;left
   clear h7
   have:∀ l:List (DataW H × List MemPlace),y ∈ l->m ∈ DataW.weightsAll P e (l.map (·.1)):=by
    intro l
    induction l with
    |nil=>intro h;cases h
    |cons z l ih=>
     intro ho
     simp only[cJ1,DataW.weightsAll,cB1]
     rcases bX5.1 ho with rfl|ho
     ·exact O g3
     ·exact Or.inr (ih ho)
   exact this elems g2)
  have hv:∀ i,∃ a:α,i<len->Pr a/\∀ j,j<q->∃ d u,(g a)[j]? =some d/\J2 W b (o+(i*q+j))=some u/\A1 (uX (J2 W)) d u:=fun i=>by
   by_cases hi:i<len
   ·have:=hh i hi
    rw[hc,cJ3 (by omega)] at this
    simp only[aG3] at this
    obtain ⟨cs,h2,h3⟩:=this
    obtain ⟨k1,k2⟩:=yX h2
    obtain ⟨a,ha,hj⟩:=he cs n _ k1 h3 (g1 _ (cN3 _)) b (o+i*q) fun j hj=>by
     have:=k2 j hj
     rw[<- this,add_plain,add_plain]
    refine ⟨a,fun _=>⟨ha,fun j g4=>?_⟩⟩
    have:=hj j g4
    rwa [dK2] at this
   ·exact ⟨default,fun h=>absurd h hi⟩
  let f:Nat->α:=fun i=>Classical.choose (hv i)
  have hf:∀ i,i<len->Pr (f i)/\∀ j,j<q->∃ d u,(g (f i))[j]? =some d/\J2 W b (o+(i*q+j))=some u/\A1 (uX (J2 W)) d u:=fun i=>Classical.choose_spec (hv i)
  let l:List α:=(List.range len).map f
  have hp:l.length=len:=by simp[l]
  refine ⟨l,?_,rfl,by rw[hp];exact dJ2 (dC6 _ hl) g0,fun a ha=>?_⟩
  ·rw[hp]
   simp only[f9,A1]
   refine .inl ⟨⟨b,o,none⟩,cap,rfl,trivial,?_,?_,by omega⟩
   ·unfold I4 B5
    rw[aO9 (by rw[bA6];omega)]
    exact hl
   ·refine RB _ _ fun k d hk=>?_
    have g5:(l.flatMap g).length=len*q:=by
     have:∀ l:List α,(l.flatMap g).length=l.length*q:=fun l=>by
      induction l with
      |nil=>simp
      |cons a l ih=>rw[dM1,bA4,ih,hg a,bK2,Nat.succ_mul];omega
     rw[this l,hp]
    have g6:k<len*q:=by
     rw[<- g5]
     exact (List.getElem?_eq_some_iff.1 hk).1
    have hi:k / q<len:=Nat.div_lt_of_lt_mul (by rw[Nat.mul_comm];exact g6)
    have hj:k % q<q:=Nat.mod_lt _ hq
    have g7:k / q*q+k % q=k:=by rw[Nat.mul_comm];exact Nat.div_add_mod k q
    obtain ⟨d',u,e1,e2,e3⟩:=(hf (k / q) hi).2 (k % q) hj
    have e4:=MQ (g:=g) hq l (fun a _=>hg a) (k / q) (k % q) hj
    rw[g7] at e2 e4
    have e5:l[k / q]? =some (f (k / q)):=by simp[l,hi]
    rw[e5,aI2,e1,hk] at e4
    cases e4
    exact ⟨u,e2,e3⟩
  ·simp only[l,dK4,List.mem_range] at ha
   obtain ⟨i,hi,rfl⟩:=ha
   exact (hf i hi).1
end
end Go.Itp
