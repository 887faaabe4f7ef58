/- What is proved: the law KnitlogFinds returns true for every input.
   Texts: V61, V50, V53, V58, V54.
-/
import Derived.Test.YtgohenjcanfolaaGreatDoorPart4
import Derived.SizedLaws
import Derived.HandedShaped
import Derived.Shelf.Vars
namespace Go.Itp
set_option linter.unusedVariables false
mutual
def noO (o:Nat):V→Bool
 | .sc _=>true
 | .sl _ _ _=>true
 | .slk _ _ _ _=>true
 | .dp _ _=>true
 | .ref i _ _ _=> !Nat.beq i o
 | .gr _ i _=> !Nat.beq i o
 | .ptr i _=> !Nat.beq i o
 | .agg l=>noOL o l
 | .tup l=>noOL o l
 | .dead=>true
 |_=>false
def noOL (o:Nat):List V→Bool
 | []=>true
 |v::r=>noO o v && noOL o r
end
def noOO (o:Nat):Obj→Bool
 | .box _ _ l=>noOL o l
 |_=>true
structure VW.leO (o0:Nat) (w w':VW):Prop where
 ld:∀ a,w.inF a→w'.ld a=w.ld a
 F:∀ b,w.F b→w'.F b
 nx:w.nx=w'.nx
 μ:∀ o b,o ≠ o0→w'.μ o=some b→w.μ o=some b
section
variable {o0:Nat} {w w':VW}
theorem VW.leO.inF (h:VW.leO o0 w w') {a:Addr} (i:w.inF a):w'.inF a:=by
 unfold VW.inF at i ⊢
 split
 ·trivial
 ·rename_i hs
  rw[hs] at i
  exact h.F _ i
mutual
theorem DRep.monoO (h:VW.leO o0 w w'):∀ {d:D} {v:Value},DRep w d v→DRep w' d v
 | .sc x,v,r=>by simp only[DRep] at r ⊢;exact r
 | .sl s n l,v,r=>by
  simp only[DRep] at r ⊢
  rcases r with ⟨a,c,e,i,k,r,q⟩|r
  ·exact .inl ⟨a,c,e,h.inF i,k,DRepA.monoO h i r,q⟩
  ·exact .inr r
theorem DRepA.monoO (h:VW.leO o0 w w'):∀ {l:List D} {a:Addr},w.inF a→DRepA w l a→DRepA w' l a
 | [],a,_,_=>by simp only[DRepA]
 |d::r,a,i,q=>by
  simp only[DRepA] at q ⊢
  obtain ⟨⟨v,h1,h2⟩,h3⟩:=q
  exact ⟨⟨v,by rw[h.ld a i];exact h1,DRep.monoO h h2⟩,DRepA.monoO h (inF_add i) h3⟩
end
theorem DRepL.monoO (h:VW.leO o0 w w'):∀ {l:List D} {vs:List Value},DRepL w l vs→DRepL w' l vs
 | [],vs,r=>r
 |d::r,vs,q=>by
  obtain ⟨v,vs',e,h1,h2⟩:=q
  exact ⟨v,vs',e,DRep.monoO h h1,DRepL.monoO h h2⟩
mutual
theorem VRep.monoO (h:VW.leO o0 w w'):∀ {d:V} {v:Value},noO o0 d=true→VRep w d v→VRep w' d v
 | .sc x,v,_,r=>by simp only[VRep] at r ⊢;exact r
 | .sl s n l,v,_,r=>by simp only[VRep] at r ⊢;exact DRep.monoO h r
 | .slk s n c l,v,_,r=>by
  simp only[VRep] at r ⊢
  refine ⟨r.1,r.2.1,r.2.2.imp ?_ id⟩
  rintro ⟨a,e,i,r⟩
  exact ⟨a,e,h.inF i,DRepA.monoO h i r⟩
 | .dp l o,v,_,r=>by
  simp only[VRep] at r ⊢
  obtain ⟨a,e,i,r⟩:=r
  exact ⟨a,e,h.inF i,DRepA.monoO h i r⟩
 | .ref o k n c,v,hn,r=>by
  simp only[noO,Bool.not_eq_true',nbf] at hn
  simp only[VRep] at r ⊢
  obtain ⟨h1,h2,b',e,r⟩:=r
  exact ⟨by rw[← h.nx];exact h1,h2,b',e,fun b hb=>r b (h.μ o b hn hb)⟩
 | .gr s o n,v,hn,r=>by
  simp only[noO,Bool.not_eq_true',nbf] at hn
  simp only[VRep] at r ⊢
  obtain ⟨h1,r⟩:=r
  refine ⟨by rw[← h.nx];exact h1,r.imp (And.imp id (Or.imp id (And.imp id ?_))) ?_⟩
  ·rintro ⟨a,c,e,i⟩
   exact ⟨a,c,e,h.inF i⟩
  ·rintro ⟨h2,b',e,r⟩
   exact ⟨h2,b',e,fun b hb=>r b (h.μ o b hn hb)⟩
 | .ptr o k,v,hn,r=>by
  simp only[noO,Bool.not_eq_true',nbf] at hn
  simp only[VRep] at r ⊢
  obtain ⟨h1,b',e,r⟩:=r
  exact ⟨by rw[← h.nx];exact h1,b',e,fun b hb=>r b (h.μ o b hn hb)⟩
 | .agg l,v,hn,r=>by
  simp only[noO] at hn
  simp only[VRep] at r ⊢
  obtain ⟨vs,e,r⟩:=r
  exact ⟨vs,e,VRepL.monoO h hn r⟩
 | .tup l,v,hn,r=>by
  simp only[noO] at hn
  simp only[VRep] at r ⊢
  obtain ⟨vs,e,r⟩:=r
  exact ⟨vs,e,VRepL.monoO h hn r⟩
 | .dead,v,_,_=>by simp only[VRep]
 | .fn _ _ _,_,hn,_=>by cases hn
 | .ifc _ _,_,hn,_=>by cases hn
 | .tok _,_,hn,_=>by cases hn
theorem VRepL.monoO (h:VW.leO o0 w w'):∀ {l:List V} {vs:List Value},noOL o0 l=true→VRepL w l vs→VRepL w' l vs
 | [],vs,_,r=>by simp only[VRepL] at r ⊢;exact r
 |d::r,vs,hn,q=>by
  simp only[noOL,Bool.and_eq_true] at hn
  simp only[VRepL] at q ⊢
  obtain ⟨v,vs',e,h1,h2⟩:=q
  exact ⟨v,vs',e,VRep.monoO h hn.1 h1,VRepL.monoO h hn.2 h2⟩
end
theorem ORep.monoO (h:VW.leO o0 w w') {ob:Obj} {b:Blk} (hn:noOO o0 ob=true) (r:ORep w ob b):ORep w' ob b:=by
 cases ob with
 |box t e l=>exact ⟨r.1,r.2.1,r.2.2.1,VRepL.monoO h hn r.2.2.2⟩
 |row t e g z l=>exact ⟨r.1,r.2.1,r.2.2.1,DRepL.monoO h r.2.2.2⟩
 |gro t e z l=>exact ⟨r.1,r.2.1,r.2.2.1,DRepL.monoO h r.2.2.2⟩
end
section
variable {C:Ctx} {K:List KF} {fr:VFr} {st:VSt} {P:VPost}
theorem dAppR_row (t e b m s o t2 e2:Nat) (g2:Bool) (l l2:List D) (hm:m ≠ 0) (he:e ≠ 0) (h1:m≤1099511627776) (h2:m*b≤1099511627776) (hl:l.length=m*e) (hok:okL l=true):
  dAppR st t e b m s l o (some (.row t2 e2 g2 false l2))=some (.gr 2 st.next m,⟨(st.next,.gro t e false l)::st.own,st.next+1,st.ro⟩,⟨[o,999999999],[],[st.next],false,false⟩):=by
 simp only[dAppR]
 rw[if_neg (by rw[nbeq];exact hm),if_pos]
 simp only[Bool.and_eq_true,Bool.not_eq_true',nbf,Nat.ble_eq]
 exact ⟨⟨⟨⟨⟨hm,he⟩,by unfold room;exact h1⟩,by unfold room;exact h2⟩,nbeq.2 hl⟩,hok⟩
theorem dAppR_row0 (t e b s o t2 e2:Nat) (g2:Bool) (l l2:List D) (hs:s ≠ 1):dAppR st t e b 0 s l o (some (.row t2 e2 g2 false l2))=some (.ref o 0 0 0,st,⟨[o,999999999],[],[],false,false⟩):=by
 simp only[dAppR]
 rw[if_pos (nbeq.2 rfl),if_neg (by rw[nbeq];exact hs)]
def dAppRNO (st:VSt) (t e b o m k2 o2:Nat):Option Obj→Option Obj→Option (V × VSt × VRc)
 |some (.row _ _ _ false _),some (.row t2 e2 g2 false l2)=>
     if !Nat.beq m 0 && !Nat.beq e 0 && Nat.ble m room && Nat.ble (m*b) room && Nat.ble (k2+m*e) l2.length && okL ((l2.drop k2).take (m*e)) then
      some (.gr 2 st.next m,⟨(st.next,.gro t e false ((l2.drop k2).take (m*e)))::st.own,st.next+1,st.ro⟩,⟨[o,o2],[],[st.next],false,false⟩) else none
 |_,_=>none
theorem dAppRN_ref (t e b o o2 k2 m c2:Nat):dAppRN st t e b o (some (.ref o2 k2 m c2))=dAppRNO st t e b o m k2 o2 (aget st.own o) (aget st.own o2):=by
 rfl
theorem dAppRNO_row (t e b o m o2 t1 e1 t2 e2:Nat) (g1 g2:Bool) (l1 l2:List D) (hm:m ≠ 0) (he:e ≠ 0) (h1:m≤1099511627776) (h2:m*b≤1099511627776) (hl:l2.length=m*e) (hok:okL l2=true):
  dAppRNO st t e b o m 0 o2 (some (.row t1 e1 g1 false l1)) (some (.row t2 e2 g2 false l2))=some (.gr 2 st.next m,⟨(st.next,.gro t e false l2)::st.own,st.next+1,st.ro⟩,⟨[o,o2],[],[st.next],false,false⟩):=by
 have ht:(l2.drop 0).take (m*e)=l2:=by rw[List.drop_zero,List.take_of_length_le (by omega)]
 simp only[dAppRNO]
 rw[ht,if_pos]
 simp only[Bool.and_eq_true,Bool.not_eq_true',nbf,Nat.ble_eq]
 exact ⟨⟨⟨⟨⟨hm,he⟩,by unfold room;exact h1⟩,by unfold room;exact h2⟩,by omega⟩,hok⟩
theorem dAppO_row (t e b o n m o2 t2 e2:Nat) (g2:Bool) (l l2:List D) (hro:st.ro≤o) (hn:n ≠ 0) (hm:m ≠ 0) (he:e ≠ 0) (hl:l.length=n*e) (h1:n+m≤1099511627776) (h2:(n+m)*b≤1099511627776) (hl2:l2.length=m*e) (hok:okL l2=true):
  dAppO st t e b o n m 0 o2 (some (.gro t e false l)) (some (.row t2 e2 g2 false l2))=some (.gr 2 st.next (n+m),⟨(st.next,.gro t e false (l++l2))::adel o st.own,st.next+1,st.ro⟩,⟨[o,o2],[o,o2],[st.next],false,true⟩):=by
 have ht:(l2.drop 0).take (m*e)=l2:=by rw[List.drop_zero,List.take_of_length_le (by omega)]
 simp only[dAppO]
 rw[ht,if_pos]
 simp only[Bool.and_eq_true,Bool.not_eq_true',nbf,Nat.ble_eq]
 exact ⟨⟨⟨⟨⟨⟨⟨⟨⟨⟨hro,hn⟩,hm⟩,he⟩,nbeq.2 rfl⟩,nbeq.2 rfl⟩,nbeq.2 hl⟩,by unfold room;exact h1⟩,by unfold room;exact h2⟩,by omega⟩,hok⟩
end
end Go.Itp
namespace Go.Itp
open Go Go.ChangeShapes
set_option linter.unusedVariables false
section
variable {H:Type} {enc:TypeId × Value→H} {P:Program} {W:World} {base:Nat} {held:Bool}
theorem dec_seven {e:TypeId} {f0 f1 f2 f3 f4 f5 f6:Field} (he:P.underlying e=some (.struct #[f0,f1,f2,f3,f4,f5,f6])) (o0:f0.offset=0) (o1:f1.offset=1) (o2:f2.offset=2) (o3:f3.offset=3) (o4:f4.offset=4) (o5:f5.offset=5) (o6:f6.offset=6)
  (c0:P.cellsOf f0.type=1) (c1:P.cellsOf f1.type=1) (c2:P.cellsOf f2.type=1) (c3:P.cellsOf f3.type=1) (c4:P.cellsOf f4.type=1) (c5:P.cellsOf f5.type=1) (c6:P.cellsOf f6.type=1)
  (cs:List Value) (n:Nat) (y:DataW H × List MemPlace) (hl:cs.length=7) (h:DataW.trod enc P W base (fun _=>true) held n e cs=some y):
  ∃ (m:Nat) (a0 a1 a2 a3 a4 a5 a6:Value),cs= [a0,a1,a2,a3,a4,a5,a6]∧(∃ y,DataW.trod enc P W base (fun _=>true) held m f0.type [a0]=some y)∧(∃ y,DataW.trod enc P W base (fun _=>true) held m f1.type [a1]=some y)∧(∃ y,DataW.trod enc P W base (fun _=>true) held m f2.type [a2]=some y)∧
   (∃ y,DataW.trod enc P W base (fun _=>true) held m f3.type [a3]=some y)∧(∃ y,DataW.trod enc P W base (fun _=>true) held m f4.type [a4]=some y)∧(∃ y,DataW.trod enc P W base (fun _=>true) held m f5.type [a5]=some y)∧∃ y,DataW.trod enc P W base (fun _=>true) held m f6.type [a6]=some y:=by
 obtain ⟨a0,a1,a2,a3,a4,a5,a6,rfl⟩:∃ a0 a1 a2 a3 a4 a5 a6,cs= [a0,a1,a2,a3,a4,a5,a6]:=by
  rcases cs with _|⟨a0,_|⟨a1,_|⟨a2,_|⟨a3,_|⟨a4,_|⟨a5,_|⟨a6,_|⟨a7,r⟩⟩⟩⟩⟩⟩⟩⟩<;>simp at hl
  exact ⟨a0,a1,a2,a3,a4,a5,a6,rfl⟩
 cases n with
 |zero=>simp[DataW.trod] at h
 |succ n=>
  unfold DataW.trod at h
  simp only[he] at h
  split at h
  case isFalse=>cases h
  simp only[Option.map_eq_some_iff,List.mapM_cons,List.mapM_nil] at h
  obtain ⟨xs,hx,hd⟩:=h
  simp only[o0,o1,o2,o3,o4,o5,o6,c0,c1,c2,c3,c4,c5,c6,List.drop_zero,List.drop_succ_cons,List.take_succ_cons,List.take_zero] at hx
  refine ⟨n,a0,a1,a2,a3,a4,a5,a6,rfl,?_⟩
  cases h0:DataW.trod enc P W base (fun _=>true) held n f0.type [a0] with
  |none=>simp[h0] at hx
  |some y0=>
  cases h1:DataW.trod enc P W base (fun _=>true) held n f1.type [a1] with
  |none=>simp[h0,h1] at hx
  |some y1=>
  cases h2:DataW.trod enc P W base (fun _=>true) held n f2.type [a2] with
  |none=>simp[h0,h1,h2] at hx
  |some y2=>
  cases h3:DataW.trod enc P W base (fun _=>true) held n f3.type [a3] with
  |none=>simp[h0,h1,h2,h3] at hx
  |some y3=>
  cases h4:DataW.trod enc P W base (fun _=>true) held n f4.type [a4] with
  |none=>simp[h0,h1,h2,h3,h4] at hx
  |some y4=>
  cases h5:DataW.trod enc P W base (fun _=>true) held n f5.type [a5] with
  |none=>simp[h0,h1,h2,h3,h4,h5] at hx
  |some y5=>
  cases h6:DataW.trod enc P W base (fun _=>true) held n f6.type [a6] with
  |none=>simp[h0,h1,h2,h3,h4,h5,h6] at hx
  |some y6=>exact ⟨⟨_,rfl⟩,⟨_,rfl⟩,⟨_,rfl⟩,⟨_,rfl⟩,⟨_,rfl⟩,⟨_,rfl⟩,⟨_,rfl⟩⟩
theorem wf8 {z:Int} (h:(Lit.int .u8 z).wf=true):0≤z∧z<256:=by
 simp[Lit.wf,IntKind.min,IntKind.max,IntKind.signed,IntKind.bits] at h
 omega
end
section
variable {H:Type} {enc:TypeId × Value→H} {P:Program} {W:World} {base:Nat} {held:Bool}
end
end Go.Itp
namespace Go.Itp
open Go Go.ChangeShapes Go.WideShapes Go.ChangeAt Go.RowKit
set_option linter.unusedVariables false
section
variable {H:Type} {enc:TypeId × Value→H} {P:Program} {W:World} {base:Nat} {held:Bool}
end
end Go.Itp
namespace Go.Itp

end Go.Itp
