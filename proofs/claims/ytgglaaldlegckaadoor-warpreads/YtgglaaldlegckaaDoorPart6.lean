/- What is proved: the law WarpReads returns true for every input. Conditions: none beyond the card's own.
   Texts: E22g, E22h, E22i, E22j, E22k.
-/
import Derived.Test.YtgglaaldlegckaaDoorPart5
import Derived.Test.YtgglaaldlegckaaDoorCards
import Derived.Test.YtgglaaldlegckaaDoorTie
import Derived.SizedLaws
import Derived.ChangeAt
import Derived.SevenTiedAt
import Derived.Stop.Joined
import Derived.Lay
namespace Go.Proofs.YtgglaaldlegckaaDoor
open Go Go.Itp
set_option maxRecDepth 100000
set_option maxHeartbeats 1000000
set_option linter.unusedSimpArgs false
set_option linter.unusedVariables false
def rparseF (s:List UInt8):List Int × Int:=
 if s= [] then ([],0) else match parseR none (words 32 s) with
  |none=>([],12)
  |some R=>if (expF R).2 ≠ 0 then ([],12) else ((expF R).1,0)
theorem get_mid (p x q:List UInt8) (i:Nat) (h:i<x.length):(p++(x++q))[p.length+i]! =x[i]! :=by
 rw[getElem!_pos _ _ (by simp;omega),getElem!_pos x i h,List.getElem_append_right (by omega),List.getElem_append_left (by omega)]
 congr 1
 omega
theorem get_end (p x q:List UInt8) (c:UInt8):(p++(x++c::q))[p.length+x.length]! =c:=by
 rw[getElem!_pos _ _ (by simp),List.getElem_append_right (by omega),List.getElem_append_right (by omega)]
 simp
theorem mem_get {x:List UInt8} {i:Nat} (h:i<x.length):x[i]! ∈ x:=by rw[getElem!_pos x i h];exact List.getElem_mem h
theorem wordF_nil (prev:Option Int):wordF prev []=none:=by
 unfold wordF
 rw[if_neg]
 rintro ⟨h,_⟩
 unfold cutB at h
 rw[idxB_free (by simp),if_neg (by omega)] at h
 cases h
theorem wordF_free {prev:Option Int} {x:List UInt8} (hf:120 ∉ x):wordF prev x=none:=by
 unfold wordF
 rw[if_neg]
 rintro ⟨h,_⟩
 unfold cutB at h
 rw[idxB_free hf,if_neg (by omega)] at h
 cases h
theorem wordF_cut {prev:Option Int} {a b:List UInt8} (hf:120 ∉ a):wordF prev (a++120::b)=if (numF a).2=true∧(numF b).2=true∧okP prev ((numF a).1,(numF b).1) then some ((numF a).1,(numF b).1) else none:=by
 have e:cutB 120 (a++120::b)=(a,b,true):=by
  unfold cutB
  rw[idxB_app _ hf,if_pos (by omega)]
  simp
 unfold wordF
 rw[e]
 simp only[true_and]
theorem lastC_at {Q:List (Int × Int)} (h:0<Q.length):lastC none Q=some Q[Q.length - 1]!.2:=by
 have hne:Q ≠ []:=List.length_pos_iff.1 h
 obtain ⟨S,p,rfl⟩:∃ S p,Q=S++ [p]:=⟨Q.dropLast,Q.getLast hne,(List.dropLast_concat_getLast hne).symm⟩
 rw[lastC_snoc,getElem!_pos _ _ (by simp)]
 simp
section
variable (w:World) (n:Nat)
theorem scan1 {C:Ctx} (hC:C.E.rounds=many) {s p x q:List UInt8} (hs:s=p++(x++q)) (hl:s.length≤1000000) (hx:32 ∉ x) (hq:q= []∨∃ q',q=32::q') {K:List KF} {P:VPost} {st:VSt} (a b:V)
  (h:gK C K (.exit 2) [(0,strV s),(4,a),(5,b),(6,.sc (.int .i64 ((p.length+x.length:Nat):Int))),(7,.sc (.int .i64 p.length)),(29,.sc (.bool false))] st P):
  gL C [0,4,5,6,7] c31l1 K [(0,strV s),(4,a),(5,b),(6,.sc (.int .i64 p.length)),(7,.sc (.int .i64 p.length))] st P:=by
 have hsz:=mk_size s
 have hlen:s.length=p.length+x.length+q.length:=by rw[hs];simp;omega
 refine g_while (fun m fr st'=>∃ j:Nat,m=x.length - j∧j≤x.length∧fr= [(0,strV s),(4,a),(5,b),(6,.sc (.int .i64 ((p.length+j:Nat):Int))),(7,.sc (.int .i64 p.length))]∧st'=st) x.length ?_ ⟨_,_,.refl _ _,0,?_⟩ ?_
 ·rw[hC];unfold many;omega
 ·exact ⟨by omega,by omega,by simp,rfl⟩
 ·rintro m fr st' ⟨j,rfl,hj,rfl,rfl⟩
  by_cases hlt:j<x.length
  ·have hb:=idxStr_l s .i64 ((p.length+j:Nat):Int) (by omega) (by omega)
   rw[Int.toNat_natCast,hs,get_mid p x q j hlt,← hs] at hb
   have hne:¬ ((x[j]!.toNat:Nat):Int)=32:=fun e=>hx (by
    have h2:x[j]! =32:=UInt8.toNat_inj.1 (by simpa using (by omega:x[j]!.toNat=32))
    rw[← h2];exact mem_get hlt)
   generalize x[j]!.toNat=y at hb hne
   repeat' (first|(simp (disch:=first|omega|assumption|(refine @id ((_:Bool)=_) ?_;exact id (by with_unfolding_all rfl))|(exact Or.inl rfl)|(exact Or.inl trivial)|(exact okL_map _ (fun _=>rfl) _)|(simp only[VVlen]<;>omega)|fail) only[VV0,VV1,VV2,VV3,VV4,VV5,VV6,VV7,VV8,VV9,mkFnV,vargs,slotsL,opdsA,Nat.reduceEqDiff,Nat.reduceLT,Nat.reduceAdd,Nat.reduceBEq,Int.reduceAdd,Int.reduceSub,Int.reduceLT,Int.reduceLE,Int.reduceEq,Int.reduceNeg,↓reduceIte,reduceCtorEq,scL,scD,expand,List.replicate,c31l1,hb])|(refine gC_drawW ?_)|(refine gI_dec (fun _=>?_) (fun _=>?_))|(refine gG_dec (fun _=>?_) (fun _=>?_))|(refine gPG_dec (fun _=>?_) (fun _=>?_))|(refine gI_var (fun _=>?_) (fun _=>?_))|(refine gG_var (fun _=>?_) (fun _=>?_))|(refine gPG_var (fun _=>?_) (fun _=>?_)))
   all_goals try (exfalso;omega)
   exact ⟨_,_,_,by omega,.refl _ _,j+1,rfl,hlt,by simp[Int.add_assoc],rfl⟩
  ·have:j=x.length:=by omega
   subst this
   rcases hq with rfl|⟨q',rfl⟩
   ·have hq0:([]:List UInt8).length=0:=rfl
    repeat' (first|(simp (disch:=first|omega|assumption|(refine @id ((_:Bool)=_) ?_;exact id (by with_unfolding_all rfl))|(exact Or.inl rfl)|(exact Or.inl trivial)|(exact okL_map _ (fun _=>rfl) _)|(simp only[VVlen]<;>omega)|fail) only[VV0,VV1,VV2,VV3,VV4,VV5,VV6,VV7,VV8,VV9,mkFnV,vargs,slotsL,opdsA,Nat.reduceEqDiff,Nat.reduceLT,Nat.reduceAdd,Nat.reduceBEq,Int.reduceAdd,Int.reduceSub,Int.reduceLT,Int.reduceLE,Int.reduceEq,Int.reduceNeg,↓reduceIte,reduceCtorEq,scL,scD,expand,List.replicate,c31l1])|(refine gC_drawW ?_)|(refine gI_dec (fun _=>?_) (fun _=>?_))|(refine gG_dec (fun _=>?_) (fun _=>?_))|(refine gPG_dec (fun _=>?_) (fun _=>?_))|(refine gI_var (fun _=>?_) (fun _=>?_))|(refine gG_var (fun _=>?_) (fun _=>?_))|(refine gPG_var (fun _=>?_) (fun _=>?_)))
    all_goals try (exfalso;omega)
    exact h
   ·have hb:=idxStr_l s .i64 ((p.length+x.length:Nat):Int) (by omega) (by rw[hlen];simp;omega)
    rw[Int.toNat_natCast,hs,get_end p x q' 32,← hs] at hb
    have hq0:(32::q').length=q'.length+1:=rfl
    have h32:(((32:UInt8).toNat:Nat):Int)=32:=rfl
    rw[h32] at hb
    repeat' (first|(simp (disch:=first|omega|assumption|(refine @id ((_:Bool)=_) ?_;exact id (by with_unfolding_all rfl))|(exact Or.inl rfl)|(exact Or.inl trivial)|(exact okL_map _ (fun _=>rfl) _)|(simp only[VVlen]<;>omega)|fail) only[VV0,VV1,VV2,VV3,VV4,VV5,VV6,VV7,VV8,VV9,mkFnV,vargs,slotsL,opdsA,Nat.reduceEqDiff,Nat.reduceLT,Nat.reduceAdd,Nat.reduceBEq,Int.reduceAdd,Int.reduceSub,Int.reduceLT,Int.reduceLE,Int.reduceEq,Int.reduceNeg,↓reduceIte,reduceCtorEq,scL,scD,expand,List.replicate,c31l1,hb])|(refine gC_drawW ?_)|(refine gI_dec (fun _=>?_) (fun _=>?_))|(refine gG_dec (fun _=>?_) (fun _=>?_))|(refine gPG_dec (fun _=>?_) (fun _=>?_))|(refine gI_var (fun _=>?_) (fun _=>?_))|(refine gG_var (fun _=>?_) (fun _=>?_))|(refine gPG_var (fun _=>?_) (fun _=>?_)))
    all_goals try (exfalso;omega)
    exact h
theorem scan2 {C:Ctx} (hC:C.E.rounds=many) {s p x q a r:List UInt8} (hs:s=p++(x++q)) (hl:s.length≤1000000) (ha:120 ∉ a) (hr:x=a++r) (hq:r= []∨∃ r',r=120::r') {K:List KF} {P:VPost} {st:VSt} (u b:V)
  (h:gK C K (.exit 4) [(0,strV s),(4,u),(5,b),(6,.sc (.int .i64 ((p.length+x.length:Nat):Int))),(7,.sc (.int .i64 ((p.length+a.length:Nat):Int))),(40,.sc (.bool false))] st P):
  gL C [0,4,5,6,7] c31l0 K [(0,strV s),(4,u),(5,b),(6,.sc (.int .i64 ((p.length+x.length:Nat):Int))),(7,.sc (.int .i64 p.length)),(29,.sc (.bool false))] st P:=by
 have hsz:=mk_size s
 have hlen:s.length=p.length+x.length+q.length:=by rw[hs];simp;omega
 have hxl:x.length=a.length+r.length:=by rw[hr];simp
 refine g_while (fun m fr st'=>∃ j:Nat,m=a.length - j∧j≤a.length∧fr= [(0,strV s),(4,u),(5,b),(6,.sc (.int .i64 ((p.length+x.length:Nat):Int))),(7,.sc (.int .i64 ((p.length+j:Nat):Int)))]∧st'=st) a.length ?_ ⟨_,_,weak_akeep [0,4,5,6,7] rfl,0,?_⟩ ?_
 ·rw[hC];unfold many;omega
 ·exact ⟨by omega,by omega,rfl,rfl⟩
 ·rintro m fr st' ⟨j,rfl,hj,rfl,rfl⟩
  by_cases hlt:j<a.length
  ·have hb:=idxStr_l s .i64 ((p.length+j:Nat):Int) (by omega) (by omega)
   rw[Int.toNat_natCast,hs,get_mid p x q j (by omega),hr] at hb
   have hga:(a++r)[j]! =a[j]! :=by
    rw[getElem!_pos _ _ (by simp;omega),getElem!_pos a j hlt,List.getElem_append_left hlt]
   rw[hga,← hr,← hs] at hb
   have hne:¬ ((a[j]!.toNat:Nat):Int)=120:=fun e=>ha (by
    have h2:a[j]! =120:=UInt8.toNat_inj.1 (by simpa using (by omega:a[j]!.toNat=120))
    rw[← h2];exact mem_get hlt)
   generalize a[j]!.toNat=y at hb hne
   have hlt2:(((p.length+j:Nat):Int)<((p.length+x.length:Nat):Int)):=by omega
   repeat' (first|(simp (disch:=first|omega|assumption|(refine @id ((_:Bool)=_) ?_;exact id (by with_unfolding_all rfl))|(exact Or.inl rfl)|(exact Or.inl trivial)|(exact okL_map _ (fun _=>rfl) _)|(simp only[VVlen]<;>omega)|fail) only[VV0,VV1,VV2,VV3,VV4,VV5,VV6,VV7,VV8,VV9,mkFnV,vargs,slotsL,opdsA,Nat.reduceEqDiff,Nat.reduceLT,Nat.reduceAdd,Nat.reduceBEq,Int.reduceAdd,Int.reduceSub,Int.reduceLT,Int.reduceLE,Int.reduceEq,Int.reduceNeg,↓reduceIte,reduceCtorEq,scL,scD,expand,List.replicate,c31l0,hb,hlt2])|(refine gC_drawW ?_)|(refine gI_dec (fun _=>?_) (fun _=>?_))|(refine gG_dec (fun _=>?_) (fun _=>?_))|(refine gPG_dec (fun _=>?_) (fun _=>?_))|(refine gI_var (fun _=>?_) (fun _=>?_))|(refine gG_var (fun _=>?_) (fun _=>?_))|(refine gPG_var (fun _=>?_) (fun _=>?_)))
   all_goals try (exfalso;omega)
   exact ⟨_,_,_,by omega,.refl _ _,j+1,rfl,hlt,by simp[Int.add_assoc],rfl⟩
  ·have:j=a.length:=by omega
   subst this
   rcases hq with rfl|⟨r',rfl⟩
   ·have hq0:([]:List UInt8).length=0:=rfl
    repeat' (first|(simp (disch:=first|omega|assumption|(refine @id ((_:Bool)=_) ?_;exact id (by with_unfolding_all rfl))|(exact Or.inl rfl)|(exact Or.inl trivial)|(exact okL_map _ (fun _=>rfl) _)|(simp only[VVlen]<;>omega)|fail) only[VV0,VV1,VV2,VV3,VV4,VV5,VV6,VV7,VV8,VV9,mkFnV,vargs,slotsL,opdsA,Nat.reduceEqDiff,Nat.reduceLT,Nat.reduceAdd,Nat.reduceBEq,Int.reduceAdd,Int.reduceSub,Int.reduceLT,Int.reduceLE,Int.reduceEq,Int.reduceNeg,↓reduceIte,reduceCtorEq,scL,scD,expand,List.replicate,c31l0])|(refine gC_drawW ?_)|(refine gI_dec (fun _=>?_) (fun _=>?_))|(refine gG_dec (fun _=>?_) (fun _=>?_))|(refine gPG_dec (fun _=>?_) (fun _=>?_))|(refine gI_var (fun _=>?_) (fun _=>?_))|(refine gG_var (fun _=>?_) (fun _=>?_))|(refine gPG_var (fun _=>?_) (fun _=>?_)))
    all_goals try (exfalso;omega)
    exact h
   ·have hq0:(120::r').length=r'.length+1:=rfl
    have hb:=idxStr_l s .i64 ((p.length+a.length:Nat):Int) (by omega) (by omega)
    have hga:(a++120::r')[a.length]! =120:=by
     rw[getElem!_pos _ _ (by simp),List.getElem_append_right (by omega)]
     simp
    rw[Int.toNat_natCast,hs,get_mid p x q a.length (by omega),hr,hga,← hr,← hs] at hb
    have h32:(((120:UInt8).toNat:Nat):Int)=120:=rfl
    rw[h32] at hb
    repeat' (first|(simp (disch:=first|omega|assumption|(refine @id ((_:Bool)=_) ?_;exact id (by with_unfolding_all rfl))|(exact Or.inl rfl)|(exact Or.inl trivial)|(exact okL_map _ (fun _=>rfl) _)|(simp only[VVlen]<;>omega)|fail) only[VV0,VV1,VV2,VV3,VV4,VV5,VV6,VV7,VV8,VV9,mkFnV,vargs,slotsL,opdsA,Nat.reduceEqDiff,Nat.reduceLT,Nat.reduceAdd,Nat.reduceBEq,Int.reduceAdd,Int.reduceSub,Int.reduceLT,Int.reduceLE,Int.reduceEq,Int.reduceNeg,↓reduceIte,reduceCtorEq,scL,scD,expand,List.replicate,c31l0,hb])|(refine gC_drawW ?_)|(refine gI_dec (fun _=>?_) (fun _=>?_))|(refine gG_dec (fun _=>?_) (fun _=>?_))|(refine gPG_dec (fun _=>?_) (fun _=>?_))|(refine gI_var (fun _=>?_) (fun _=>?_))|(refine gG_var (fun _=>?_) (fun _=>?_))|(refine gPG_var (fun _=>?_) (fun _=>?_)))
    all_goals try (exfalso;omega)
    exact h
end
end Go.Proofs.YtgglaaldlegckaaDoor
namespace Go.Proofs.YtgglaaldlegckaaDoor
open Go Go.Itp
set_option maxRecDepth 100000
set_option maxHeartbeats 2000000
set_option linter.unusedSimpArgs false
set_option linter.unusedVariables false
theorem parseR_cons (prev:Option Int) (x:List UInt8) (ws:List (List UInt8)):parseR prev (x::ws)=(wordF prev x).bind fun p=>(parseR (some p.2) ws).map (p::·):=rfl
def Stand (s:List UInt8) (Q:List (Int × Int)) (at_:Nat):Prop:=
 (∃ p r,s=p++r∧r ≠ []∧at_=p.length∧parseR none (words 32 s)=(parseR (lastC none Q) (words 32 r)).map (Q++·))∨(s.length≤at_∧(s= []∧Q= []∨s ≠ []∧parseR none (words 32 s)=some Q))
theorem stand_bad {s:List UInt8} (hne:s ≠ []) (h:parseR none (words 32 s)=none):rparseF s=([],12):=by
 unfold rparseF
 rw[if_neg hne,h]
def goodW (prev:Option Int) (A B:Int × Bool):Prop:=A.2=true∧B.2=true∧1≤A.1∧A.1≤4000∧0≤B.1∧B.1≤15∧prev ≠ some B.1
theorem wordF_bad {prev:Option Int} {a b:List UInt8} (hf:120 ∉ a) (h:¬ goodW prev (numF a) (numF b)):wordF prev (a++120::b)=none:=by
 rw[wordF_cut hf,if_neg]
 rintro ⟨h1,h2,⟨⟨h3,h4⟩,h5,h6⟩,h7⟩
 exact h ⟨h1,h2,h3,h4,h5,h6,h7⟩
theorem wordF_good {prev:Option Int} {a b:List UInt8} (hf:120 ∉ a) (h:goodW prev (numF a) (numF b)):wordF prev (a++120::b)=some ((numF a).1,(numF b).1):=by
 obtain ⟨h1,h2,h3,h4,h5,h6,h7⟩:=h
 rw[wordF_cut hf,if_pos]
 exact ⟨h1,h2,⟨⟨h3,h4⟩,h5,h6⟩,h7⟩
def restW:List UInt8→List (List UInt8)
 | []=> []
 |_::q=>words 32 q
section
variable (w:World) (n:Nat)
theorem rparse_p (s:List UInt8) (hl:s.length≤100000):VSpec (EN w (n+3)) 31 [strV s] (sl2 (rparseF s)) ⟨[],0,0⟩:=by
 refine vspec_g rfl rfl (fun _ _=>rfl) (Nat.le_of_ble_eq_true rfl) (oldVals w) retOK_fin rfl fun C hC hn=>?_
 have hsz:=mk_size s
 have hrn:C.E.rounds=many:=by rw[hC,callP_rounds]
 repeat' (first|(simp (disch:=first|omega|assumption|(refine @id ((_:Bool)=_) ?_;exact id (by with_unfolding_all rfl))|(exact Or.inl rfl)|(exact Or.inl trivial)|(exact okL_map _ (fun _=>rfl) _)|(simp only[VVlen]<;>omega)|fail) only[VV0,VV1,VV2,VV3,VV4,VV5,VV6,VV7,VV8,VV9,mkFnV,vargs,slotsL,opdsA,Nat.reduceEqDiff,Nat.reduceLT,Nat.reduceAdd,Nat.reduceBEq,Int.reduceAdd,Int.reduceSub,Int.reduceLT,Int.reduceLE,Int.reduceEq,Int.reduceNeg,↓reduceIte,reduceCtorEq,scL,scD,expand,List.replicate,c31])|(refine gC_drawW ?_)|(refine gI_dec (fun _=>?_) (fun _=>?_))|(refine gG_dec (fun _=>?_) (fun _=>?_))|(refine gPG_dec (fun _=>?_) (fun _=>?_))|(refine gI_var (fun _=>?_) (fun _=>?_))|(refine gG_var (fun _=>?_) (fun _=>?_))|(refine gPG_var (fun _=>?_) (fun _=>?_)))
 refine g_while (fun m fr st=>∃ (Q:List (Int × Int)) (k:Nat),m=s.length+1 - k∧k≤s.length+1∧Q.length≤k∧Stand s Q k∧fr= [(0,strV s),(4,.gr 2 0 Q.length),(5,.sc (.int .i64 k))]∧st=⟨[(0,.gro 58 2 false (runC Q))],1,0⟩) (s.length+1) ?_ ⟨_,_,weak_nilSlot 4 58 2 rfl,[],0,?_⟩ ?_
 ·rw[hrn];unfold many;omega
 ·refine ⟨by omega,by omega,Nat.le_refl _,?_,rfl,rfl⟩
  by_cases hs:s= []
  ·exact .inr ⟨by rw[hs];exact Nat.le_refl _,.inl ⟨hs,rfl⟩⟩
  ·refine .inl ⟨[],s,rfl,hs,rfl,?_⟩
   show _=(parseR none (words 32 s)).map fun R=> []++R
   cases parseR none (words 32 s)<;>rfl
 rintro m fr st ⟨Q,k,rfl,hk,hQk,hst,rfl,rfl⟩
 have hcl:=runC_len Q
 rcases hst with ⟨p,r,hs,hr,rfl,hpr⟩|⟨hend,hres⟩
 case inr=>
  repeat' (first|(simp (disch:=first|omega|assumption|(refine @id ((_:Bool)=_) ?_;exact id (by with_unfolding_all rfl))|(exact Or.inl rfl)|(exact Or.inl trivial)|(exact okL_map _ (fun _=>rfl) _)|(simp only[VVlen]<;>omega)|fail) only[VV0,VV1,VV2,VV3,VV4,VV5,VV6,VV7,VV8,VV9,mkFnV,vargs,slotsL,opdsA,Nat.reduceEqDiff,Nat.reduceLT,Nat.reduceAdd,Nat.reduceBEq,Int.reduceAdd,Int.reduceSub,Int.reduceLT,Int.reduceLE,Int.reduceEq,Int.reduceNeg,↓reduceIte,reduceCtorEq,scL,scD,expand,List.replicate,c31l2])|(refine gC_drawW ?_)|(refine gI_dec (fun _=>?_) (fun _=>?_))|(refine gG_dec (fun _=>?_) (fun _=>?_))|(refine gPG_dec (fun _=>?_) (fun _=>?_))|(refine gI_var (fun _=>?_) (fun _=>?_))|(refine gG_var (fun _=>?_) (fun _=>?_))|(refine gPG_var (fun _=>?_) (fun _=>?_)))
  all_goals try (exfalso;omega)
  refine callV_of (by rw[hC];exact rexpand_p w (n+1) 2 Q (by omega)) (by simp only[snapL,snap_runs Q (H:= [(0,.gro 58 2 false (runC Q))]) (o:=0) rfl,Option.bind_some,Option.map_some]) rfl rfl ?_
  have hrp:rparseF s=if (expF Q).2 ≠ 0 then ([],12) else ((expF Q).1,0):=by
   unfold rparseF
   rcases hres with ⟨h1,h2⟩|⟨h1,h2⟩
   ·subst h1;subst h2;rfl
   ·rw[if_neg h1,h2]
  rw[hrp]
  repeat' (first|(simp (disch:=first|omega|assumption|(refine @id ((_:Bool)=_) ?_;exact id (by with_unfolding_all rfl))|(exact Or.inl rfl)|(exact Or.inl trivial)|(exact okL_map _ (fun _=>rfl) _)|(simp only[VVlen]<;>omega)|fail) only[VV0,VV1,VV2,VV3,VV4,VV5,VV6,VV7,VV8,VV9,mkFnV,vargs,slotsL,opdsA,Nat.reduceEqDiff,Nat.reduceLT,Nat.reduceAdd,Nat.reduceBEq,Int.reduceAdd,Int.reduceSub,Int.reduceLT,Int.reduceLE,Int.reduceEq,Int.reduceNeg,↓reduceIte,reduceCtorEq,scL,scD,expand,List.replicate,vsh,vshL,shH,shO,fzSL,fzS])|(refine gC_drawW ?_)|(refine gI_dec (fun _=>?_) (fun _=>?_))|(refine gG_dec (fun _=>?_) (fun _=>?_))|(refine gPG_dec (fun _=>?_) (fun _=>?_))|(refine gI_var (fun _=>?_) (fun _=>?_))|(refine gG_var (fun _=>?_) (fun _=>?_))|(refine gPG_var (fun _=>?_) (fun _=>?_)))
  ·rename_i h
   rw[if_pos h]
   exact weak_finNil hn rfl
  ·rename_i h
   rw[if_neg h]
   exact weak_to [] 0 hn rfl rfl rfl rfl
 have hne:s ≠ []:=by rw[hs];simp[hr]
 obtain ⟨x,q,hrq,hx,hq,hq2,hwr⟩:∃ x q,r=x++q∧32 ∉ x∧(q= []∨∃ q',q=32::q')∧(q= [32]∨q= []∨2≤q.length)∧words 32 r=x::restW q:=by
  rcases byte_split 32 r with hf|⟨x,r',rfl,hf⟩
  ·exact ⟨r,[],by simp,hf,.inl rfl,.inr (.inl rfl),words_free hf⟩
  ·refine ⟨x,32::r',rfl,hf,.inr ⟨r',rfl⟩,?_,words_app r' hf⟩
   cases r' with
   |nil=>exact .inl rfl
   |cons c r'=>exact .inr (.inr (by simp))
 rw[hrq] at hs
 have hlen:s.length=p.length+x.length+q.length:=by rw[hs];simp;omega
 have hrp:0<x.length+q.length:=by
  have:=List.length_pos_iff.2 hr
  rw[hrq] at this
  simpa using this
 obtain ⟨a,rr,hxa,ha,hrr⟩:∃ a rr,x=a++rr∧120 ∉ a∧(rr= []∨∃ r',rr=120::r'):=by
  rcases byte_split 120 x with hf|⟨a,b,rfl,hf⟩
  ·exact ⟨x,[],by simp,hf,.inl rfl⟩
  ·exact ⟨a,120::b,rfl,hf,.inr ⟨b,rfl⟩⟩
 have hxl:x.length=a.length+rr.length:=by rw[hxa];simp
 have hbad:wordF (lastC none Q) x=none→rparseF s=([],12):=fun h=>stand_bad hne (by rw[hpr,hwr,parseR_cons,h];rfl)
 repeat' (first|(simp (disch:=first|omega|assumption|(refine @id ((_:Bool)=_) ?_;exact id (by with_unfolding_all rfl))|(exact Or.inl rfl)|(exact Or.inl trivial)|(exact okL_map _ (fun _=>rfl) _)|(simp only[VVlen]<;>omega)|fail) only[VV0,VV1,VV2,VV3,VV4,VV5,VV6,VV7,VV8,VV9,mkFnV,vargs,slotsL,opdsA,Nat.reduceEqDiff,Nat.reduceLT,Nat.reduceAdd,Nat.reduceBEq,Int.reduceAdd,Int.reduceSub,Int.reduceLT,Int.reduceLE,Int.reduceEq,Int.reduceNeg,↓reduceIte,reduceCtorEq,scL,scD,expand,List.replicate,c31l2])|(refine gC_drawW ?_)|(refine gI_dec (fun _=>?_) (fun _=>?_))|(refine gG_dec (fun _=>?_) (fun _=>?_))|(refine gPG_dec (fun _=>?_) (fun _=>?_))|(refine gI_var (fun _=>?_) (fun _=>?_))|(refine gG_var (fun _=>?_) (fun _=>?_))|(refine gPG_var (fun _=>?_) (fun _=>?_)))
 all_goals try (exfalso;omega)
 refine scan1 hrn hs (by omega) hx hq _ _ ?_
 repeat' (first|(simp (disch:=first|omega|assumption|(refine @id ((_:Bool)=_) ?_;exact id (by with_unfolding_all rfl))|(exact Or.inl rfl)|(exact Or.inl trivial)|(exact okL_map _ (fun _=>rfl) _)|(simp only[VVlen]<;>omega)|fail) only[VV0,VV1,VV2,VV3,VV4,VV5,VV6,VV7,VV8,VV9,mkFnV,vargs,slotsL,opdsA,Nat.reduceEqDiff,Nat.reduceLT,Nat.reduceAdd,Nat.reduceBEq,Int.reduceAdd,Int.reduceSub,Int.reduceLT,Int.reduceLE,Int.reduceEq,Int.reduceNeg,↓reduceIte,reduceCtorEq,scL,scD,expand,List.replicate])|(refine gC_drawW ?_)|(refine gI_dec (fun _=>?_) (fun _=>?_))|(refine gG_dec (fun _=>?_) (fun _=>?_))|(refine gPG_dec (fun _=>?_) (fun _=>?_))|(refine gI_var (fun _=>?_) (fun _=>?_))|(refine gG_var (fun _=>?_) (fun _=>?_))|(refine gPG_var (fun _=>?_) (fun _=>?_)))
 refine scan2 hrn hs (by omega) ha hxa hrr _ _ ?_
 rcases hrr with rfl|⟨b,rfl⟩
 ·have h0:([]:List UInt8).length=0:=rfl
  rw[hbad (wordF_free (by rw[hxa];simpa using ha))]
  repeat' (first|(simp (disch:=first|omega|assumption|(refine @id ((_:Bool)=_) ?_;exact id (by with_unfolding_all rfl))|(exact Or.inl rfl)|(exact Or.inl trivial)|(exact okL_map _ (fun _=>rfl) _)|(simp only[VVlen]<;>omega)|fail) only[VV0,VV1,VV2,VV3,VV4,VV5,VV6,VV7,VV8,VV9,mkFnV,vargs,slotsL,opdsA,Nat.reduceEqDiff,Nat.reduceLT,Nat.reduceAdd,Nat.reduceBEq,Int.reduceAdd,Int.reduceSub,Int.reduceLT,Int.reduceLE,Int.reduceEq,Int.reduceNeg,↓reduceIte,reduceCtorEq,scL,scD,expand,List.replicate])|(refine gC_drawW ?_)|(refine gI_dec (fun _=>?_) (fun _=>?_))|(refine gG_dec (fun _=>?_) (fun _=>?_))|(refine gPG_dec (fun _=>?_) (fun _=>?_))|(refine gI_var (fun _=>?_) (fun _=>?_))|(refine gG_var (fun _=>?_) (fun _=>?_))|(refine gPG_var (fun _=>?_) (fun _=>?_)))
  all_goals try (exfalso;omega)
  exact weak_finNil hn rfl
 have hbl:(120::b).length=b.length+1:=rfl
 by_cases hq1:q= [32]
 ·have hql:q.length=1:=by rw[hq1];rfl
  have hb2:parseR none (words 32 s)=none:=by
   rw[hpr,hwr,hq1,parseR_cons]
   cases wordF (lastC none Q) x with
   |none=>rfl
   |some p'=>
    simp only[Option.bind_some]
    rw[show restW [32]= [[]] from rfl,parseR_cons,wordF_nil]
    rfl
  rw[stand_bad hne hb2]
  repeat' (first|(simp (disch:=first|omega|assumption|(refine @id ((_:Bool)=_) ?_;exact id (by with_unfolding_all rfl))|(exact Or.inl rfl)|(exact Or.inl trivial)|(exact okL_map _ (fun _=>rfl) _)|(simp only[VVlen]<;>omega)|fail) only[VV0,VV1,VV2,VV3,VV4,VV5,VV6,VV7,VV8,VV9,mkFnV,vargs,slotsL,opdsA,Nat.reduceEqDiff,Nat.reduceLT,Nat.reduceAdd,Nat.reduceBEq,Int.reduceAdd,Int.reduceSub,Int.reduceLT,Int.reduceLE,Int.reduceEq,Int.reduceNeg,↓reduceIte,reduceCtorEq,scL,scD,expand,List.replicate])|(refine gC_drawW ?_)|(refine gI_dec (fun _=>?_) (fun _=>?_))|(refine gG_dec (fun _=>?_) (fun _=>?_))|(refine gPG_dec (fun _=>?_) (fun _=>?_))|(refine gI_var (fun _=>?_) (fun _=>?_))|(refine gG_var (fun _=>?_) (fun _=>?_))|(refine gPG_var (fun _=>?_) (fun _=>?_)))
  all_goals try (exfalso;omega)
  exact weak_finNil hn rfl
 have hql:q.length ≠ 1:=by
  rcases hq2 with h|h|h
  ·exact absurd h hq1
  ·rw[h];simp
  ·omega
 have es1:slcSV (some (.int .i64 p.length)) (some (.int .i64 ((p.length+a.length:Nat):Int))) (strV s)=some (strV a):=by
  rw[slcS_both s _ _ _ _ (by omega) (by omega) (by omega),Int.toNat_natCast,Int.toNat_natCast,hs,hxa]
  simp
 have es2:slcSV (some (.int .i64 (((p.length+a.length:Nat):Int)+1))) (some (.int .i64 ((p.length+x.length:Nat):Int))) (strV s)=some (strV b):=by
  rw[slcS_both s _ _ _ _ (by omega) (by omega) (by omega),show (((p.length+a.length:Nat):Int)+1).toNat=p.length+(a.length+1) by omega,Int.toNat_natCast,hs,← List.drop_drop]
  rw[List.drop_left,hxa,← List.drop_drop,List.append_assoc,List.drop_left]
  simp
  rw[show p.length+(a.length+(b.length+1)) - (p.length+(a.length+1))=b.length by omega,List.take_left]
 have hna:∀ st,VSpecO C.E 50 st [strV a] (.tup [.sc (.int .i64 (numF a).1),.sc (.bool (numF a).2)]):=fun st=>(number_p w n a (by omega)).of hC rfl st rfl
 have hnb:∀ st,VSpecO C.E 50 st [strV b] (.tup [.sc (.int .i64 (numF b).1),.sc (.bool (numF b).2)]):=fun st=>(number_p w n b (by omega)).of hC rfl st rfl
 have hB:¬ goodW (lastC none Q) (numF a) (numF b)→rparseF s=([],12):=fun h=>hbad (by rw[hxa];exact wordF_bad ha h)
 have hG:goodW (lastC none Q) (numF a) (numF b)→wordF (lastC none Q) x=some ((numF a).1,(numF b).1):=fun h=>by rw[hxa];exact wordF_good ha h
 clear hbad
 repeat' (first|(simp (disch:=first|omega|assumption|(refine @id ((_:Bool)=_) ?_;exact id (by with_unfolding_all rfl))|(exact Or.inl rfl)|(exact Or.inl trivial)|(exact okL_map _ (fun _=>rfl) _)|(simp only[VVlen]<;>omega)|fail) only[VV0,VV1,VV2,VV3,VV4,VV5,VV6,VV7,VV8,VV9,mkFnV,vargs,slotsL,opdsA,Nat.reduceEqDiff,Nat.reduceLT,Nat.reduceAdd,Nat.reduceBEq,Int.reduceAdd,Int.reduceSub,Int.reduceLT,Int.reduceLE,Int.reduceEq,Int.reduceNeg,↓reduceIte,reduceCtorEq,scL,scD,expand,List.replicate,es1,es2])|(refine gC_drawW ?_)|(refine gI_dec (fun _=>?_) (fun _=>?_))|(refine gG_dec (fun _=>?_) (fun _=>?_))|(refine gPG_dec (fun _=>?_) (fun _=>?_))|(refine gI_var (fun _=>?_) (fun _=>?_))|(refine gG_var (fun _=>?_) (fun _=>?_))|(refine gPG_var (fun _=>?_) (fun _=>?_)))
 all_goals try (exfalso;omega)
 refine callV_flat (hna _) ?_
 repeat' (first|(simp (disch:=first|omega|assumption|(refine @id ((_:Bool)=_) ?_;exact id (by with_unfolding_all rfl))|(exact Or.inl rfl)|(exact Or.inl trivial)|(exact okL_map _ (fun _=>rfl) _)|(simp only[VVlen]<;>omega)|fail) only[VV0,VV1,VV2,VV3,VV4,VV5,VV6,VV7,VV8,VV9,mkFnV,vargs,slotsL,opdsA,Nat.reduceEqDiff,Nat.reduceLT,Nat.reduceAdd,Nat.reduceBEq,Int.reduceAdd,Int.reduceSub,Int.reduceLT,Int.reduceLE,Int.reduceEq,Int.reduceNeg,↓reduceIte,reduceCtorEq,scL,scD,expand,List.replicate,es1,es2])|(refine gC_drawW ?_)|(refine gI_dec (fun _=>?_) (fun _=>?_))|(refine gG_dec (fun _=>?_) (fun _=>?_))|(refine gPG_dec (fun _=>?_) (fun _=>?_))|(refine gI_var (fun _=>?_) (fun _=>?_))|(refine gG_var (fun _=>?_) (fun _=>?_))|(refine gPG_var (fun _=>?_) (fun _=>?_)))
 all_goals try (exfalso;omega)
 refine callV_flat (hnb _) ?_
 have hlast:0<Q.length→(((Q.length:Int) - 1=((Q.length - 1:Nat):Int))∧dload (runC Q) ((Q.length - 1)*2+1) none=some (.sc (.int .i64 Q[Q.length - 1]!.2))∧lastC none Q=some Q[Q.length - 1]!.2):=fun h=>⟨by omega,runC_f1 Q _ (by omega),lastC_at h⟩
 have hQ0:Q.length=0→lastC none Q=none:=fun h=>by rw[List.eq_nil_of_length_eq_zero h];rfl
 have hnum:(numF a).2=true→0≤(numF a).1∧(numF a).1<1000000000:=fun h=>by
  obtain ⟨h1,h2,_⟩:=numF_some (l:=a) (z:=(numF a).1) (by rw[← h])
  exact ⟨h1,h2⟩
 generalize numF a=A at*
 generalize numF b=B at*
 obtain ⟨N,i1⟩:=A
 obtain ⟨c,i2⟩:=B
 simp only at hnum hG ⊢
 by_cases hi1:i1=true
 case neg=>
  rw[hB (fun h=>hi1 h.1)]
  rw[Bool.not_eq_true] at hi1
  repeat' (first|(simp (disch:=first|omega|assumption|(refine @id ((_:Bool)=_) ?_;exact id (by with_unfolding_all rfl))|(exact Or.inl rfl)|(exact Or.inl trivial)|(exact okL_map _ (fun _=>rfl) _)|(simp only[VVlen]<;>omega)|fail) only[VV0,VV1,VV2,VV3,VV4,VV5,VV6,VV7,VV8,VV9,mkFnV,vargs,slotsL,opdsA,Nat.reduceEqDiff,Nat.reduceLT,Nat.reduceAdd,Nat.reduceBEq,Int.reduceAdd,Int.reduceSub,Int.reduceLT,Int.reduceLE,Int.reduceEq,Int.reduceNeg,↓reduceIte,reduceCtorEq,scL,scD,expand,List.replicate,hi1])|(refine gC_drawW ?_)|(refine gI_dec (fun _=>?_) (fun _=>?_))|(refine gG_dec (fun _=>?_) (fun _=>?_))|(refine gPG_dec (fun _=>?_) (fun _=>?_))|(refine gI_var (fun _=>?_) (fun _=>?_))|(refine gG_var (fun _=>?_) (fun _=>?_))|(refine gPG_var (fun _=>?_) (fun _=>?_)))
  all_goals try (exfalso;omega)
  exact weak_finNil hn rfl
 by_cases hi2:i2=true
 case neg=>
  rw[hB (fun h=>hi2 h.2.1)]
  rw[Bool.not_eq_true] at hi2
  repeat' (first|(simp (disch:=first|omega|assumption|(refine @id ((_:Bool)=_) ?_;exact id (by with_unfolding_all rfl))|(exact Or.inl rfl)|(exact Or.inl trivial)|(exact okL_map _ (fun _=>rfl) _)|(simp only[VVlen]<;>omega)|fail) only[VV0,VV1,VV2,VV3,VV4,VV5,VV6,VV7,VV8,VV9,mkFnV,vargs,slotsL,opdsA,Nat.reduceEqDiff,Nat.reduceLT,Nat.reduceAdd,Nat.reduceBEq,Int.reduceAdd,Int.reduceSub,Int.reduceLT,Int.reduceLE,Int.reduceEq,Int.reduceNeg,↓reduceIte,reduceCtorEq,scL,scD,expand,List.replicate,hi1,hi2])|(refine gC_drawW ?_)|(refine gI_dec (fun _=>?_) (fun _=>?_))|(refine gG_dec (fun _=>?_) (fun _=>?_))|(refine gPG_dec (fun _=>?_) (fun _=>?_))|(refine gI_var (fun _=>?_) (fun _=>?_))|(refine gG_var (fun _=>?_) (fun _=>?_))|(refine gPG_var (fun _=>?_) (fun _=>?_)))
  all_goals try (exfalso;omega)
  exact weak_finNil hn rfl
 by_cases j1:N<1
 ·rw[hB (fun h=>by have:=h.2.2.1;simp only at this;omega)]
  repeat' (first|(simp (disch:=first|omega|assumption|(refine @id ((_:Bool)=_) ?_;exact id (by with_unfolding_all rfl))|(exact Or.inl rfl)|(exact Or.inl trivial)|(exact okL_map _ (fun _=>rfl) _)|(simp only[VVlen]<;>omega)|fail) only[VV0,VV1,VV2,VV3,VV4,VV5,VV6,VV7,VV8,VV9,mkFnV,vargs,slotsL,opdsA,Nat.reduceEqDiff,Nat.reduceLT,Nat.reduceAdd,Nat.reduceBEq,Int.reduceAdd,Int.reduceSub,Int.reduceLT,Int.reduceLE,Int.reduceEq,Int.reduceNeg,↓reduceIte,reduceCtorEq,scL,scD,expand,List.replicate,hi1,hi2])|(refine gC_drawW ?_)|(refine gI_dec (fun _=>?_) (fun _=>?_))|(refine gG_dec (fun _=>?_) (fun _=>?_))|(refine gPG_dec (fun _=>?_) (fun _=>?_))|(refine gI_var (fun _=>?_) (fun _=>?_))|(refine gG_var (fun _=>?_) (fun _=>?_))|(refine gPG_var (fun _=>?_) (fun _=>?_)))
  all_goals try (exfalso;omega)
  exact weak_finNil hn rfl
 by_cases j2:4000<N
 ·rw[hB (fun h=>by have:=h.2.2.2.1;simp only at this;omega)]
  repeat' (first|(simp (disch:=first|omega|assumption|(refine @id ((_:Bool)=_) ?_;exact id (by with_unfolding_all rfl))|(exact Or.inl rfl)|(exact Or.inl trivial)|(exact okL_map _ (fun _=>rfl) _)|(simp only[VVlen]<;>omega)|fail) only[VV0,VV1,VV2,VV3,VV4,VV5,VV6,VV7,VV8,VV9,mkFnV,vargs,slotsL,opdsA,Nat.reduceEqDiff,Nat.reduceLT,Nat.reduceAdd,Nat.reduceBEq,Int.reduceAdd,Int.reduceSub,Int.reduceLT,Int.reduceLE,Int.reduceEq,Int.reduceNeg,↓reduceIte,reduceCtorEq,scL,scD,expand,List.replicate,hi1,hi2])|(refine gC_drawW ?_)|(refine gI_dec (fun _=>?_) (fun _=>?_))|(refine gG_dec (fun _=>?_) (fun _=>?_))|(refine gPG_dec (fun _=>?_) (fun _=>?_))|(refine gI_var (fun _=>?_) (fun _=>?_))|(refine gG_var (fun _=>?_) (fun _=>?_))|(refine gPG_var (fun _=>?_) (fun _=>?_)))
  all_goals try (exfalso;omega)
  exact weak_finNil hn rfl
 by_cases j3:c<0
 ·rw[hB (fun h=>by have:=h.2.2.2.2.1;simp only at this;omega)]
  repeat' (first|(simp (disch:=first|omega|assumption|(refine @id ((_:Bool)=_) ?_;exact id (by with_unfolding_all rfl))|(exact Or.inl rfl)|(exact Or.inl trivial)|(exact okL_map _ (fun _=>rfl) _)|(simp only[VVlen]<;>omega)|fail) only[VV0,VV1,VV2,VV3,VV4,VV5,VV6,VV7,VV8,VV9,mkFnV,vargs,slotsL,opdsA,Nat.reduceEqDiff,Nat.reduceLT,Nat.reduceAdd,Nat.reduceBEq,Int.reduceAdd,Int.reduceSub,Int.reduceLT,Int.reduceLE,Int.reduceEq,Int.reduceNeg,↓reduceIte,reduceCtorEq,scL,scD,expand,List.replicate,hi1,hi2])|(refine gC_drawW ?_)|(refine gI_dec (fun _=>?_) (fun _=>?_))|(refine gG_dec (fun _=>?_) (fun _=>?_))|(refine gPG_dec (fun _=>?_) (fun _=>?_))|(refine gI_var (fun _=>?_) (fun _=>?_))|(refine gG_var (fun _=>?_) (fun _=>?_))|(refine gPG_var (fun _=>?_) (fun _=>?_)))
  all_goals try (exfalso;omega)
  exact weak_finNil hn rfl
 by_cases j4:15<c
 ·rw[hB (fun h=>by have:=h.2.2.2.2.2.1;simp only at this;omega)]
  repeat' (first|(simp (disch:=first|omega|assumption|(refine @id ((_:Bool)=_) ?_;exact id (by with_unfolding_all rfl))|(exact Or.inl rfl)|(exact Or.inl trivial)|(exact okL_map _ (fun _=>rfl) _)|(simp only[VVlen]<;>omega)|fail) only[VV0,VV1,VV2,VV3,VV4,VV5,VV6,VV7,VV8,VV9,mkFnV,vargs,slotsL,opdsA,Nat.reduceEqDiff,Nat.reduceLT,Nat.reduceAdd,Nat.reduceBEq,Int.reduceAdd,Int.reduceSub,Int.reduceLT,Int.reduceLE,Int.reduceEq,Int.reduceNeg,↓reduceIte,reduceCtorEq,scL,scD,expand,List.replicate,hi1,hi2])|(refine gC_drawW ?_)|(refine gI_dec (fun _=>?_) (fun _=>?_))|(refine gG_dec (fun _=>?_) (fun _=>?_))|(refine gPG_dec (fun _=>?_) (fun _=>?_))|(refine gI_var (fun _=>?_) (fun _=>?_))|(refine gG_var (fun _=>?_) (fun _=>?_))|(refine gPG_var (fun _=>?_) (fun _=>?_)))
  all_goals try (exfalso;omega)
  exact weak_finNil hn rfl
 by_cases j5:lastC none Q=some c
 ·rw[hB (fun h=>h.2.2.2.2.2.2 j5)]
  have hQ:0<Q.length:=by
   rcases Nat.eq_zero_or_pos Q.length with h|h
   ·rw[hQ0 h] at j5;cases j5
   ·exact h
  obtain ⟨g1,g2,g3⟩:=hlast hQ
  have g4:Q[Q.length - 1]!.2=c:=by rw[g3] at j5;exact Option.some.inj j5
  rw[g4] at g2
  repeat' (first|(simp (disch:=first|omega|assumption|(refine @id ((_:Bool)=_) ?_;exact id (by with_unfolding_all rfl))|(exact Or.inl rfl)|(exact Or.inl trivial)|(exact okL_map _ (fun _=>rfl) _)|(simp only[VVlen]<;>omega)|fail) only[VV0,VV1,VV2,VV3,VV4,VV5,VV6,VV7,VV8,VV9,mkFnV,vargs,slotsL,opdsA,Nat.reduceEqDiff,Nat.reduceLT,Nat.reduceAdd,Nat.reduceBEq,Int.reduceAdd,Int.reduceSub,Int.reduceLT,Int.reduceLE,Int.reduceEq,Int.reduceNeg,↓reduceIte,reduceCtorEq,scL,scD,expand,List.replicate,hi1,hi2,g1,g2])|(refine gC_drawW ?_)|(refine gI_dec (fun _=>?_) (fun _=>?_))|(refine gG_dec (fun _=>?_) (fun _=>?_))|(refine gPG_dec (fun _=>?_) (fun _=>?_))|(refine gI_var (fun _=>?_) (fun _=>?_))|(refine gG_var (fun _=>?_) (fun _=>?_))|(refine gPG_var (fun _=>?_) (fun _=>?_)))
  all_goals try (exfalso;omega)
  exact weak_finNil hn rfl
 have hw:wordF (lastC none Q) x=some (N,c):=hG ⟨hi1,hi2,by simp only;omega,by simp only;omega,by simp only;omega,by simp only;omega,j5⟩
 have hfin:∀ (o nx:Nat) (H:VHp) (k':Int),k'=((p.length+x.length:Nat):Int)+1→aget H o=some (.gro 58 2 false (runC Q++ [.sc (.int .i64 N),.sc (.int .i64 c)]))→∃ m' fr' st',m'<s.length+1 - p.length∧Weak C [(0,strV s),(4,.gr 2 o (Q.length+1)),(5,.sc (.int .i64 k'))] ⟨H,nx,0⟩ fr' st'∧
   ∃ (Q:List (Int × Int)) (k:Nat),m'=s.length+1 - k∧k≤s.length+1∧Q.length≤k∧Stand s Q k∧fr'= [(0,strV s),(4,.gr 2 0 Q.length),(5,.sc (.int .i64 k))]∧st'=⟨[(0,.gro 58 2 false (runC Q))],1,0⟩:=by
  intro o nx H k' hk' ho
  refine ⟨_,_,_,?_,weak_to [(o,0)] 1 hn rfl rfl rfl rfl,Q++ [(N,c)],p.length+x.length+1,rfl,by omega,by simp;omega,?_,?_,?_⟩
  ·omega
  ·have hpn:parseR none (words 32 s)=(parseR (some c) (restW q)).map (fun R=>(Q++ [(N,c)])++R):=by
    rw[hpr,hwr,parseR_cons,hw]
    simp only[Option.bind_some]
    cases parseR (some c) (restW q) with
    |none=>rfl
    |some R=>simp
   rcases hq with rfl|⟨q',rfl⟩
   ·have h0:([]:List UInt8).length=0:=rfl
    refine .inr ⟨by omega,.inr ⟨hne,?_⟩⟩
    rw[hpn]
    show some ((Q++ [(N,c)])++ [])=_
    rw[List.append_nil]
   ·refine .inl ⟨p++(x++ [32]),q',by rw[hs];simp,fun h=>hq1 (by rw[h]),by simp;omega,?_⟩
    rw[hpn,lastC_snoc]
    rfl
  ·rw[hk'];simp[renF,vren,vrenL,aget_cons]
  ·rw[runC_append];simp[renH,renO,ho,iD]
 rcases Nat.eq_zero_or_pos Q.length with hQ|hQ
 ·repeat' (first|(simp (disch:=first|omega|assumption|(refine @id ((_:Bool)=_) ?_;exact id (by with_unfolding_all rfl))|(exact Or.inl rfl)|(exact Or.inl trivial)|(exact okL_map _ (fun _=>rfl) _)|(simp only[VVlen]<;>omega)|fail) only[VV0,VV1,VV2,VV3,VV4,VV5,VV6,VV7,VV8,VV9,mkFnV,vargs,slotsL,opdsA,Nat.reduceEqDiff,Nat.reduceLT,Nat.reduceAdd,Nat.reduceBEq,Int.reduceAdd,Int.reduceSub,Int.reduceLT,Int.reduceLE,Int.reduceEq,Int.reduceNeg,↓reduceIte,reduceCtorEq,scL,scD,expand,List.replicate,hi1,hi2,row1V_run])|(refine gC_drawW ?_)|(refine gI_dec (fun _=>?_) (fun _=>?_))|(refine gG_dec (fun _=>?_) (fun _=>?_))|(refine gPG_dec (fun _=>?_) (fun _=>?_))|(refine gI_var (fun _=>?_) (fun _=>?_))|(refine gG_var (fun _=>?_) (fun _=>?_))|(refine gPG_var (fun _=>?_) (fun _=>?_)))
  all_goals try (exfalso;omega)
  exact hfin _ _ _ _ rfl rfl
 ·obtain ⟨g1,g2,g3⟩:=hlast hQ
  have g4:¬ Q[Q.length - 1]!.2=c:=fun h=>j5 (by rw[g3,h])
  repeat' (first|(simp (disch:=first|omega|assumption|(refine @id ((_:Bool)=_) ?_;exact id (by with_unfolding_all rfl))|(exact Or.inl rfl)|(exact Or.inl trivial)|(exact okL_map _ (fun _=>rfl) _)|(simp only[VVlen]<;>omega)|fail) only[VV0,VV1,VV2,VV3,VV4,VV5,VV6,VV7,VV8,VV9,mkFnV,vargs,slotsL,opdsA,Nat.reduceEqDiff,Nat.reduceLT,Nat.reduceAdd,Nat.reduceBEq,Int.reduceAdd,Int.reduceSub,Int.reduceLT,Int.reduceLE,Int.reduceEq,Int.reduceNeg,↓reduceIte,reduceCtorEq,scL,scD,expand,List.replicate,hi1,hi2,g1,g2,g4,row1V_run])|(refine gC_drawW ?_)|(refine gI_dec (fun _=>?_) (fun _=>?_))|(refine gG_dec (fun _=>?_) (fun _=>?_))|(refine gPG_dec (fun _=>?_) (fun _=>?_))|(refine gI_var (fun _=>?_) (fun _=>?_))|(refine gG_var (fun _=>?_) (fun _=>?_))|(refine gPG_var (fun _=>?_) (fun _=>?_)))
  all_goals try (exfalso;omega)
  exact hfin _ _ _ _ rfl rfl
end
end Go.Proofs.YtgglaaldlegckaaDoor
namespace Go.Proofs.YtgglaaldlegckaaDoor
open Go Go.Itp
set_option maxRecDepth 100000
set_option maxHeartbeats 2000000
set_option linter.unusedSimpArgs false
set_option linter.unusedVariables false
def numA (l:List UInt8):Option Int:=match Lib.atoiAll l with
 | .ok v=>some v
 |_=>none
theorem numA_ok {l:List UInt8} {v:Int} (h:numA l=some v):Lib.atoiAll l= .ok v:=by
 unfold numA at h
 split at h
 ·rename_i u hu;cases h;exact hu
 ·cases h
theorem numA_none {l:List UInt8} (h:numA l=none) (v:Int):Lib.atoiAll l ≠ .ok v:=by
 intro e
 unfold numA at h
 rw[e] at h
 cases h
def readW (x:List UInt8):Option (Int × Int):=if (cutB 120 x).2.2=true then (numA (cutB 120 x).1).bind fun n=>(numA (cutB 120 x).2.1).map fun c=>(n,c) else none
def parseA:List (List UInt8)→Option (List (Int × Int))
 | []=>some []
 |x::ws=>(readW x).bind fun p=>(parseA ws).map (p::·)
theorem parseA_append:∀ {a:List (List UInt8)} {Q:List (Int × Int)} (ws:List (List UInt8)),parseA a=some Q→parseA (a++ws)=(parseA ws).map (Q++·)
 | [],Q,ws,h=>by
  simp only[parseA,Option.some.injEq] at h;subst h
  simp
 |x::a,Q,ws,h=>by
  simp only[parseA,Option.bind_eq_some_iff,Option.map_eq_some_iff] at h
  obtain ⟨p,h1,R,h2,rfl⟩:=h
  simp only[List.cons_append,parseA,h1,Option.bind_some,parseA_append ws h2]
  cases parseA ws<;>rfl
theorem parseA_len:∀ {a:List (List UInt8)} {Q:List (Int × Int)},parseA a=some Q→Q.length=a.length
 | [],Q,h=>by simp only[parseA,Option.some.injEq] at h;subst h;rfl
 |x::a,Q,h=>by
  simp only[parseA,Option.bind_eq_some_iff,Option.map_eq_some_iff] at h
  obtain ⟨p,h1,R,h2,rfl⟩:=h
  simp[parseA_len h2]
theorem cut_len (x:List UInt8):(cutB 120 x).1.length≤x.length∧(cutB 120 x).2.1.length≤x.length:=by
 unfold cutB
 split
 ·simp;omega
 ·simp
def pparseF (s:List UInt8):List Int × Int:=
 if s= [] then ([],0) else match parseA (words 32 s) with
  |none=>([],12)
  |some R=>if (expF R).2 ≠ 0 then ([],12) else if (textF (expF R).1).1=s then ((expF R).1,0) else ([],12)
abbrev baseV (g:Nat) (Q:List (Int × Int)) (r:List UInt8) (c:Int):VHp:=
 [(g,.gro 58 2 false (runC Q)),(5,.box 3 1 [.sc (.int .i64 0)]),(4,sBox [32]),(3,sBox r),(2,.box 24 1 [.gr 2 g Q.length]),(1,.box 25 1 [.sc (.int .i64 c)]),(0,.box 22 1 [.sc (.slice none 0 0)])]
theorem snapR (g t:Nat) (Q:List (Int × Int)) (R:VHp):snapL ((g,.gro t 2 false (runC Q))::R) [.gr 2 g Q.length]=some [.sl 2 Q.length (runC Q)]:=by
 have h:aget ((g,.gro t 2 false (runC Q))::R) g=some (.gro t 2 false (runC Q)):=by rw[aget_cons,if_pos rfl]
 simp only[snapL,snap_runs Q h,Option.bind_some,Option.map_some]
def rngA:AC:=
 (.ops [⟨(some 5),none,.mov (.tmp 21)⟩] [2,3,4,5])
def rngB:AC:=
 (.block 1
    (.seq (.ops [⟨(some 23),none,.mov (.tmp 5)⟩,
      ⟨(some 24),none,.callF 48 [(.tmp 23),(.const (.string ⟨#[120]⟩))]⟩,
      ⟨(some 22),none,.mov (.tmp 24)⟩,
      ⟨(some 25),none,.ext (.tmp 22) 0⟩,
      ⟨(some 26),none,.ext (.tmp 22) 1⟩,
      ⟨(some 27),none,.ext (.tmp 22) 2⟩,
      ⟨(some 6),none,.mov (.tmp 25)⟩,
      ⟨(some 7),none,.mov (.tmp 26)⟩,
      ⟨(some 8),none,.mov (.tmp 27)⟩] [2,3,4,6,7,8])
    (.seq (.ops [⟨(some 29),none,.mov (.tmp 6)⟩,
      ⟨(some 30),none,.callF 49 [(.tmp 29)]⟩,
      ⟨(some 28),none,.mov (.tmp 30)⟩,
      ⟨(some 31),none,.ext (.tmp 28) 0⟩,
      ⟨(some 32),none,.ext (.tmp 28) 1⟩,
      ⟨(some 9),none,.mov (.tmp 31)⟩,
      ⟨(some 10),none,.mov (.tmp 32)⟩] [2,3,4,7,8,9,10])
    (.seq (.ops [⟨(some 34),none,.mov (.tmp 7)⟩,
      ⟨(some 35),none,.callF 49 [(.tmp 34)]⟩,
      ⟨(some 33),none,.mov (.tmp 35)⟩,
      ⟨(some 36),none,.ext (.tmp 33) 0⟩,
      ⟨(some 37),none,.ext (.tmp 33) 1⟩,
      ⟨(some 11),none,.mov (.tmp 36)⟩,
      ⟨(some 12),none,.mov (.tmp 37)⟩] [2,3,4,8,9,10,11,12])
    (.seq (.seq (.ops [⟨(some 38),none,.mov (.tmp 8)⟩,
      ⟨(some 39),none,.un .not (.tmp 38)⟩,
      ⟨(some 40),none,.mov (.tmp 39)⟩,
      ⟨(some 41),(some (40,false)),.mov (.tmp 10)⟩,
      ⟨(some 42),(some (40,false)),.eqIf true true [2,3,5,6,12,21,25,97,105,108,115,155,156,158,159] (.tmp 41) (.const .nilIface)⟩,
      ⟨(some 43),none,.pick (.tmp 40) (.const (.bool true)) (.tmp 42)⟩,
      ⟨(some 44),none,.mov (.tmp 43)⟩,
      ⟨(some 45),(some (44,false)),.mov (.tmp 12)⟩,
      ⟨(some 46),(some (44,false)),.eqIf true true [2,3,5,6,12,21,25,97,105,108,115,155,156,158,159] (.tmp 45) (.const .nilIface)⟩,
      ⟨(some 47),none,.pick (.tmp 44) (.const (.bool true)) (.tmp 46)⟩] [2,3,4,9,11,47])
    (.cond (.tmp 47)
     (.seq (.ops [⟨none,none,.store 1 (.tmp 2) (.const (.slice none 0 0))⟩,
       ⟨none,none,.store 1 (.tmp 3) (.const (.int .i64 12))⟩] [])
     (.ret))
     (.skip)))
    (.ops [⟨(some 48),none,.load none (.tmp 4)⟩,
      ⟨(some 49),none,.mov (.tmp 9)⟩,
      ⟨(some 50),none,.mov (.tmp 11)⟩,
      ⟨(some 51),none,.build [(.int .i64 0),(.int .i64 0)] [(0,1,(.tmp 49)),(1,1,(.tmp 50))]⟩,
      ⟨(some 52),none,.mkRow 58 2 1 [(.int .i64 0),(.int .i64 0)] [(0,2,(.tmp 51))]⟩,
      ⟨(some 53),none,.app 58 2 16 (.tmp 48) (.tmp 52)⟩,
      ⟨none,none,.store 1 (.tmp 4) (.tmp 53)⟩] []))))))
section
variable (w:World) (n:Nat)
theorem atoi_any {C:Ctx} {st:VSt} {Q:V→VSt→Prop} (hC:C.E=EN w (n+1)) (l:List UInt8) (hl:l.length≤1000000) (hes:(errO Tryd.prog w "strconv.ErrSyntax").isSome=true) (her:(errO Tryd.prog w "strconv.ErrRange").isSome=true)
  (h1:∀ v,numA l=some v→Q (.tup [.sc (.int .i64 v),.sc .nilIface]) st)
  (h2:numA l=none→∀ (k:Int) (cs:List V),Q (.tup [.sc (.int .i64 k),.ifc 118 (.ptr st.next 0)]) ⟨(st.next,.box 132 1 cs)::st.own,st.next+1,st.ro⟩):CallV C 49 [strV l] st Q:=by
 have hs:(ByteArray.mk l.toArray).size≤281474976710656:=by rw[mk_size];omega
 cases hu:numA l with
 |some v=>exact callV_flat (by rw[hC];exact atoi_s w n _ ⟨l.toArray⟩ v hs (numA_ok hu)) (h1 v hu)
 |none=>
  obtain ⟨k,cs,sp⟩:=atoi_f w n ⟨l.toArray⟩ hs hes her (numA_none hu)
  refine callV_of (by rw[hC];exact sp) rfl rfl rfl ?_
  obtain ⟨H,nx,ro⟩:=st
  have:=h2 hu k (vshL nx (cs.map V.sc))
  simp only[vsh,vshL,shH,shO,fzSL,fzS,frozA_none,Nat.add_zero,Nat.zero_add,List.nil_append,List.cons_append] at this ⊢
  exact this
theorem parse_round {C:Ctx} (hC:C.E=EN w (n+7)) (hes:(errO Tryd.prog w "strconv.ErrSyntax").isSome=true) (her:(errO Tryd.prog w "strconv.ErrRange").isSome=true) (fr0:V) (x r:List UInt8) (hx:x.length≤100000) (g nx:Nat) (Q:List (Int × Int)) (hQl:Q.length≤200000)
  (g1:g ≠ 0) (g2:g ≠ 1) (g3:g ≠ 2) (g4:g ≠ 3) (g5:g ≠ 4) (g6:g ≠ 5) (g7:g ≠ 7) (g8:g<nx) (g9:7<nx) (Q2:V→VSt→Prop)
  (hgo:∀ p,readW x=some p→Q2 (.sc (.bool true)) ⟨(7,recO 0)::baseV (nx+1) (Q++ [p]) r 0,nx+2,0⟩)
  (hstop:readW x=none→∀ nx',nx≤nx'→Q2 (.sc (.bool false)) ⟨(7,recO (codeOf .ret))::baseV g Q r 12,nx',0⟩):
  RoundV C.E rngA rngB [(0,fr0),(2,.ptr 0 0),(3,.ptr 1 0),(4,.ptr 2 0)] [21] 7 [strV x] ⟨(7,recO 0)::baseV g Q r 0,nx,0⟩ Q2:=by
 have b1:¬ (7=nx):=by omega
 have b2:¬ (g=nx):=by omega
 have b3:¬ (5=nx):=by omega
 have b4:¬ (4=nx):=by omega
 have b5:¬ (3=nx):=by omega
 have b6:¬ (2=nx):=by omega
 have b7:¬ (1=nx):=by omega
 have b8:¬ (0=nx):=by omega
 have f1:=Ne.symm g1
 have f2:=Ne.symm g2
 have f3:=Ne.symm g3
 have f4:=Ne.symm g4
 have f5:=Ne.symm g5
 have f6:=Ne.symm g6
 have f7:=Ne.symm g7
 have hcl:=runC_len Q
 obtain ⟨hc1,hc2⟩:=cut_len x
 have hrd:readW x=if (cutB 120 x).2.2=true then (numA (cutB 120 x).1).bind fun n=>(numA (cutB 120 x).2.1).map fun c=>(n,c) else none:=rfl
 have hcut:∀ st,VSpecO C.E 48 st [strV x,strV [120]] (.tup [strV (cutB 120 x).1,strV (cutB 120 x).2.1,.sc (.bool (cutB 120 x).2.2)]):=fun st=>(cut_p w (n+2) x 120 (by omega)).of hC rfl st rfl
 generalize cutB 120 x=X at*
 obtain ⟨u,v,is⟩:=X
 simp only at hc1 hc2 hrd hcut
 refine ⟨Nat.zero_le _,rfl,g9,_,rfl,fun C4 h4c h4n=>?_⟩
 have hcs:C4.E=EN w (n+6+1):=h4c.trans hC
 repeat' (first|(simp (disch:=first|omega|assumption|(refine @id ((_:Bool)=_) ?_;exact id (by with_unfolding_all rfl))|(exact Or.inl rfl)|(exact Or.inl trivial)|(exact okL_map _ (fun _=>rfl) _)|(simp only[VVlen]<;>omega)|fail) only[VV0,VV1,VV2,VV3,VV4,VV5,VV6,VV7,VV8,VV9,mkFnV,vargs,slotsL,opdsA,Nat.reduceEqDiff,Nat.reduceLT,Nat.reduceAdd,Nat.reduceBEq,Int.reduceAdd,Int.reduceSub,Int.reduceLT,Int.reduceLE,Int.reduceEq,Int.reduceNeg,↓reduceIte,reduceCtorEq,scL,scD,expand,List.replicate,rngA,eqIf_ifc,eqIf_nil,eqIfA_nn,b1,b2,b3,b4,b5,b6,b7,b8,g1,g2,g3,g4,g5,g6,g7,f1,f2,f3,f4,f5,f6,f7])|(refine gC_drawW ?_)|(refine gI_dec (fun _=>?_) (fun _=>?_))|(refine gG_dec (fun _=>?_) (fun _=>?_))|(refine gPG_dec (fun _=>?_) (fun _=>?_))|(refine gI_var (fun _=>?_) (fun _=>?_))|(refine gG_var (fun _=>?_) (fun _=>?_))|(refine gPG_var (fun _=>?_) (fun _=>?_)))
 refine ⟨trivial,Nat.zero_le _,trivial,?_⟩
 repeat' (first|(simp (disch:=first|omega|assumption|(refine @id ((_:Bool)=_) ?_;exact id (by with_unfolding_all rfl))|(exact Or.inl rfl)|(exact Or.inl trivial)|(exact okL_map _ (fun _=>rfl) _)|(simp only[VVlen]<;>omega)|fail) only[VV0,VV1,VV2,VV3,VV4,VV5,VV6,VV7,VV8,VV9,mkFnV,vargs,slotsL,opdsA,Nat.reduceEqDiff,Nat.reduceLT,Nat.reduceAdd,Nat.reduceBEq,Int.reduceAdd,Int.reduceSub,Int.reduceLT,Int.reduceLE,Int.reduceEq,Int.reduceNeg,↓reduceIte,reduceCtorEq,scL,scD,expand,List.replicate,rngB,eqIf_ifc,eqIf_nil,eqIfA_nn,b1,b2,b3,b4,b5,b6,b7,b8,g1,g2,g3,g4,g5,g6,g7,f1,f2,f3,f4,f5,f6,f7])|(refine gC_drawW ?_)|(refine gI_dec (fun _=>?_) (fun _=>?_))|(refine gG_dec (fun _=>?_) (fun _=>?_))|(refine gPG_dec (fun _=>?_) (fun _=>?_))|(refine gI_var (fun _=>?_) (fun _=>?_))|(refine gG_var (fun _=>?_) (fun _=>?_))|(refine gPG_var (fun _=>?_) (fun _=>?_)))
 refine callV_flat (by rw[h4c];exact hcut _) ?_
 repeat' (first|(simp (disch:=first|omega|assumption|(refine @id ((_:Bool)=_) ?_;exact id (by with_unfolding_all rfl))|(exact Or.inl rfl)|(exact Or.inl trivial)|(exact okL_map _ (fun _=>rfl) _)|(simp only[VVlen]<;>omega)|fail) only[VV0,VV1,VV2,VV3,VV4,VV5,VV6,VV7,VV8,VV9,mkFnV,vargs,slotsL,opdsA,Nat.reduceEqDiff,Nat.reduceLT,Nat.reduceAdd,Nat.reduceBEq,Int.reduceAdd,Int.reduceSub,Int.reduceLT,Int.reduceLE,Int.reduceEq,Int.reduceNeg,↓reduceIte,reduceCtorEq,scL,scD,expand,List.replicate,eqIf_ifc,eqIf_nil,eqIfA_nn,b1,b2,b3,b4,b5,b6,b7,b8,g1,g2,g3,g4,g5,g6,g7,f1,f2,f3,f4,f5,f6,f7])|(refine gC_drawW ?_)|(refine gI_dec (fun _=>?_) (fun _=>?_))|(refine gG_dec (fun _=>?_) (fun _=>?_))|(refine gPG_dec (fun _=>?_) (fun _=>?_))|(refine gI_var (fun _=>?_) (fun _=>?_))|(refine gG_var (fun _=>?_) (fun _=>?_))|(refine gPG_var (fun _=>?_) (fun _=>?_)))
 have k1:¬ (7=nx+1):=by omega
 have k2:¬ (g=nx+1):=by omega
 have k3:¬ (5=nx+1):=by omega
 have k4:¬ (4=nx+1):=by omega
 have k5:¬ (3=nx+1):=by omega
 have k6:¬ (2=nx+1):=by omega
 have k7:¬ (1=nx+1):=by omega
 have k8:¬ (0=nx+1):=by omega
 by_cases his:is=true
 case neg=>
  rw[Bool.not_eq_true] at his
  refine atoi_any w (n+6) hcs u (by omega) hes her (fun vu hu=>?_) (fun hu ku cu=>?_)
  ·repeat' (first|(simp (disch:=first|omega|assumption|(refine @id ((_:Bool)=_) ?_;exact id (by with_unfolding_all rfl))|(exact Or.inl rfl)|(exact Or.inl trivial)|(exact okL_map _ (fun _=>rfl) _)|(simp only[VVlen]<;>omega)|fail) only[VV0,VV1,VV2,VV3,VV4,VV5,VV6,VV7,VV8,VV9,mkFnV,vargs,slotsL,opdsA,Nat.reduceEqDiff,Nat.reduceLT,Nat.reduceAdd,Nat.reduceBEq,Int.reduceAdd,Int.reduceSub,Int.reduceLT,Int.reduceLE,Int.reduceEq,Int.reduceNeg,↓reduceIte,reduceCtorEq,scL,scD,expand,List.replicate,baseV,eqIf_ifc,eqIf_nil,eqIfA_nn,b1,b2,b3,b4,b5,b6,b7,b8,g1,g2,g3,g4,g5,g6,g7,f1,f2,f3,f4,f5,f6,f7,k1,k2,k3,k4,k5,k6,k7,k8,his])|(refine gC_drawW ?_)|(refine gI_dec (fun _=>?_) (fun _=>?_))|(refine gG_dec (fun _=>?_) (fun _=>?_))|(refine gPG_dec (fun _=>?_) (fun _=>?_))|(refine gI_var (fun _=>?_) (fun _=>?_))|(refine gG_var (fun _=>?_) (fun _=>?_))|(refine gPG_var (fun _=>?_) (fun _=>?_)))
   refine atoi_any w (n+6) hcs v (by omega) hes her (fun vv hv=>?_) (fun hv kv cv=>?_)
   ·repeat' (first|(simp (disch:=first|omega|assumption|(refine @id ((_:Bool)=_) ?_;exact id (by with_unfolding_all rfl))|(exact Or.inl rfl)|(exact Or.inl trivial)|(exact okL_map _ (fun _=>rfl) _)|(simp only[VVlen]<;>omega)|fail) only[VV0,VV1,VV2,VV3,VV4,VV5,VV6,VV7,VV8,VV9,mkFnV,vargs,slotsL,opdsA,Nat.reduceEqDiff,Nat.reduceLT,Nat.reduceAdd,Nat.reduceBEq,Int.reduceAdd,Int.reduceSub,Int.reduceLT,Int.reduceLE,Int.reduceEq,Int.reduceNeg,↓reduceIte,reduceCtorEq,scL,scD,expand,List.replicate,baseV,eqIf_ifc,eqIf_nil,eqIfA_nn,b1,b2,b3,b4,b5,b6,b7,b8,g1,g2,g3,g4,g5,g6,g7,f1,f2,f3,f4,f5,f6,f7,k1,k2,k3,k4,k5,k6,k7,k8,his])|(refine gC_drawW ?_)|(refine gI_dec (fun _=>?_) (fun _=>?_))|(refine gG_dec (fun _=>?_) (fun _=>?_))|(refine gPG_dec (fun _=>?_) (fun _=>?_))|(refine gI_var (fun _=>?_) (fun _=>?_))|(refine gG_var (fun _=>?_) (fun _=>?_))|(refine gPG_var (fun _=>?_) (fun _=>?_)))
    exact ⟨Nat.zero_le _,trivial,_,.refl _ _,hstop (by rw[hrd,if_neg (by rw[his];exact Bool.false_ne_true)]) _ (by omega)⟩
   ·repeat' (first|(simp (disch:=first|omega|assumption|(refine @id ((_:Bool)=_) ?_;exact id (by with_unfolding_all rfl))|(exact Or.inl rfl)|(exact Or.inl trivial)|(exact okL_map _ (fun _=>rfl) _)|(simp only[VVlen]<;>omega)|fail) only[VV0,VV1,VV2,VV3,VV4,VV5,VV6,VV7,VV8,VV9,mkFnV,vargs,slotsL,opdsA,Nat.reduceEqDiff,Nat.reduceLT,Nat.reduceAdd,Nat.reduceBEq,Int.reduceAdd,Int.reduceSub,Int.reduceLT,Int.reduceLE,Int.reduceEq,Int.reduceNeg,↓reduceIte,reduceCtorEq,scL,scD,expand,List.replicate,baseV,eqIf_ifc,eqIf_nil,eqIfA_nn,b1,b2,b3,b4,b5,b6,b7,b8,g1,g2,g3,g4,g5,g6,g7,f1,f2,f3,f4,f5,f6,f7,k1,k2,k3,k4,k5,k6,k7,k8,his])|(refine gC_drawW ?_)|(refine gI_dec (fun _=>?_) (fun _=>?_))|(refine gG_dec (fun _=>?_) (fun _=>?_))|(refine gPG_dec (fun _=>?_) (fun _=>?_))|(refine gI_var (fun _=>?_) (fun _=>?_))|(refine gG_var (fun _=>?_) (fun _=>?_))|(refine gPG_var (fun _=>?_) (fun _=>?_)))
    exact ⟨Nat.zero_le _,trivial,_,(weak_front (aget_fresh _ _ (by simp;omega))).trans (.refl _ _),hstop (by rw[hrd,if_neg (by rw[his];exact Bool.false_ne_true)]) _ (by omega)⟩
  ·repeat' (first|(simp (disch:=first|omega|assumption|(refine @id ((_:Bool)=_) ?_;exact id (by with_unfolding_all rfl))|(exact Or.inl rfl)|(exact Or.inl trivial)|(exact okL_map _ (fun _=>rfl) _)|(simp only[VVlen]<;>omega)|fail) only[VV0,VV1,VV2,VV3,VV4,VV5,VV6,VV7,VV8,VV9,mkFnV,vargs,slotsL,opdsA,Nat.reduceEqDiff,Nat.reduceLT,Nat.reduceAdd,Nat.reduceBEq,Int.reduceAdd,Int.reduceSub,Int.reduceLT,Int.reduceLE,Int.reduceEq,Int.reduceNeg,↓reduceIte,reduceCtorEq,scL,scD,expand,List.replicate,baseV,eqIf_ifc,eqIf_nil,eqIfA_nn,b1,b2,b3,b4,b5,b6,b7,b8,g1,g2,g3,g4,g5,g6,g7,f1,f2,f3,f4,f5,f6,f7,k1,k2,k3,k4,k5,k6,k7,k8,his])|(refine gC_drawW ?_)|(refine gI_dec (fun _=>?_) (fun _=>?_))|(refine gG_dec (fun _=>?_) (fun _=>?_))|(refine gPG_dec (fun _=>?_) (fun _=>?_))|(refine gI_var (fun _=>?_) (fun _=>?_))|(refine gG_var (fun _=>?_) (fun _=>?_))|(refine gPG_var (fun _=>?_) (fun _=>?_)))
   refine atoi_any w (n+6) hcs v (by omega) hes her (fun vv hv=>?_) (fun hv kv cv=>?_)
   ·repeat' (first|(simp (disch:=first|omega|assumption|(refine @id ((_:Bool)=_) ?_;exact id (by with_unfolding_all rfl))|(exact Or.inl rfl)|(exact Or.inl trivial)|(exact okL_map _ (fun _=>rfl) _)|(simp only[VVlen]<;>omega)|fail) only[VV0,VV1,VV2,VV3,VV4,VV5,VV6,VV7,VV8,VV9,mkFnV,vargs,slotsL,opdsA,Nat.reduceEqDiff,Nat.reduceLT,Nat.reduceAdd,Nat.reduceBEq,Int.reduceAdd,Int.reduceSub,Int.reduceLT,Int.reduceLE,Int.reduceEq,Int.reduceNeg,↓reduceIte,reduceCtorEq,scL,scD,expand,List.replicate,baseV,eqIf_ifc,eqIf_nil,eqIfA_nn,b1,b2,b3,b4,b5,b6,b7,b8,g1,g2,g3,g4,g5,g6,g7,f1,f2,f3,f4,f5,f6,f7,k1,k2,k3,k4,k5,k6,k7,k8,his])|(refine gC_drawW ?_)|(refine gI_dec (fun _=>?_) (fun _=>?_))|(refine gG_dec (fun _=>?_) (fun _=>?_))|(refine gPG_dec (fun _=>?_) (fun _=>?_))|(refine gI_var (fun _=>?_) (fun _=>?_))|(refine gG_var (fun _=>?_) (fun _=>?_))|(refine gPG_var (fun _=>?_) (fun _=>?_)))
    exact ⟨Nat.zero_le _,trivial,_,(weak_front (aget_fresh _ _ (by simp;omega))).trans (.refl _ _),hstop (by rw[hrd,if_neg (by rw[his];exact Bool.false_ne_true)]) _ (by omega)⟩
   ·repeat' (first|(simp (disch:=first|omega|assumption|(refine @id ((_:Bool)=_) ?_;exact id (by with_unfolding_all rfl))|(exact Or.inl rfl)|(exact Or.inl trivial)|(exact okL_map _ (fun _=>rfl) _)|(simp only[VVlen]<;>omega)|fail) only[VV0,VV1,VV2,VV3,VV4,VV5,VV6,VV7,VV8,VV9,mkFnV,vargs,slotsL,opdsA,Nat.reduceEqDiff,Nat.reduceLT,Nat.reduceAdd,Nat.reduceBEq,Int.reduceAdd,Int.reduceSub,Int.reduceLT,Int.reduceLE,Int.reduceEq,Int.reduceNeg,↓reduceIte,reduceCtorEq,scL,scD,expand,List.replicate,baseV,eqIf_ifc,eqIf_nil,eqIfA_nn,b1,b2,b3,b4,b5,b6,b7,b8,g1,g2,g3,g4,g5,g6,g7,f1,f2,f3,f4,f5,f6,f7,k1,k2,k3,k4,k5,k6,k7,k8,his])|(refine gC_drawW ?_)|(refine gI_dec (fun _=>?_) (fun _=>?_))|(refine gG_dec (fun _=>?_) (fun _=>?_))|(refine gPG_dec (fun _=>?_) (fun _=>?_))|(refine gI_var (fun _=>?_) (fun _=>?_))|(refine gG_var (fun _=>?_) (fun _=>?_))|(refine gPG_var (fun _=>?_) (fun _=>?_)))
    exact ⟨Nat.zero_le _,trivial,_,(weak_front (aget_fresh _ _ (by simp;omega))).trans ((weak_front (aget_fresh _ _ (by simp;omega))).trans (.refl _ _)),hstop (by rw[hrd,if_neg (by rw[his];exact Bool.false_ne_true)]) _ (by omega)⟩
 refine atoi_any w (n+6) hcs u (by omega) hes her (fun vu hu=>?_) (fun hu ku cu=>?_)
 ·repeat' (first|(simp (disch:=first|omega|assumption|(refine @id ((_:Bool)=_) ?_;exact id (by with_unfolding_all rfl))|(exact Or.inl rfl)|(exact Or.inl trivial)|(exact okL_map _ (fun _=>rfl) _)|(simp only[VVlen]<;>omega)|fail) only[VV0,VV1,VV2,VV3,VV4,VV5,VV6,VV7,VV8,VV9,mkFnV,vargs,slotsL,opdsA,Nat.reduceEqDiff,Nat.reduceLT,Nat.reduceAdd,Nat.reduceBEq,Int.reduceAdd,Int.reduceSub,Int.reduceLT,Int.reduceLE,Int.reduceEq,Int.reduceNeg,↓reduceIte,reduceCtorEq,scL,scD,expand,List.replicate,baseV,eqIf_ifc,eqIf_nil,eqIfA_nn,b1,b2,b3,b4,b5,b6,b7,b8,g1,g2,g3,g4,g5,g6,g7,f1,f2,f3,f4,f5,f6,f7,k1,k2,k3,k4,k5,k6,k7,k8,his])|(refine gC_drawW ?_)|(refine gI_dec (fun _=>?_) (fun _=>?_))|(refine gG_dec (fun _=>?_) (fun _=>?_))|(refine gPG_dec (fun _=>?_) (fun _=>?_))|(refine gI_var (fun _=>?_) (fun _=>?_))|(refine gG_var (fun _=>?_) (fun _=>?_))|(refine gPG_var (fun _=>?_) (fun _=>?_)))
  refine atoi_any w (n+6) hcs v (by omega) hes her (fun vv hv=>?_) (fun hv kv cv=>?_)
  ·repeat' (first|(simp (disch:=first|omega|assumption|(refine @id ((_:Bool)=_) ?_;exact id (by with_unfolding_all rfl))|(exact Or.inl rfl)|(exact Or.inl trivial)|(exact okL_map _ (fun _=>rfl) _)|(simp only[VVlen]<;>omega)|fail) only[VV0,VV1,VV2,VV3,VV4,VV5,VV6,VV7,VV8,VV9,mkFnV,vargs,slotsL,opdsA,Nat.reduceEqDiff,Nat.reduceLT,Nat.reduceAdd,Nat.reduceBEq,Int.reduceAdd,Int.reduceSub,Int.reduceLT,Int.reduceLE,Int.reduceEq,Int.reduceNeg,↓reduceIte,reduceCtorEq,scL,scD,expand,List.replicate,baseV,eqIf_ifc,eqIf_nil,eqIfA_nn,b1,b2,b3,b4,b5,b6,b7,b8,g1,g2,g3,g4,g5,g6,g7,f1,f2,f3,f4,f5,f6,f7,k1,k2,k3,k4,k5,k6,k7,k8,his])|(refine gC_drawW ?_)|(refine gI_dec (fun _=>?_) (fun _=>?_))|(refine gG_dec (fun _=>?_) (fun _=>?_))|(refine gPG_dec (fun _=>?_) (fun _=>?_))|(refine gI_var (fun _=>?_) (fun _=>?_))|(refine gG_var (fun _=>?_) (fun _=>?_))|(refine gPG_var (fun _=>?_) (fun _=>?_)))
   repeat' (first|(simp (disch:=first|omega|assumption|(refine @id ((_:Bool)=_) ?_;exact id (by with_unfolding_all rfl))|(exact Or.inl rfl)|(exact Or.inl trivial)|(exact okL_map _ (fun _=>rfl) _)|(simp only[VVlen]<;>omega)|fail) only[VV0,VV1,VV2,VV3,VV4,VV5,VV6,VV7,VV8,VV9,mkFnV,vargs,slotsL,opdsA,Nat.reduceEqDiff,Nat.reduceLT,Nat.reduceAdd,Nat.reduceBEq,Int.reduceAdd,Int.reduceSub,Int.reduceLT,Int.reduceLE,Int.reduceEq,Int.reduceNeg,↓reduceIte,reduceCtorEq,scL,scD,expand,List.replicate,row1V_run,b1,b2,b3,b4,b5,b6,b7,b8,g1,g2,g3,g4,g5,g6,g7,f1,f2,f3,f4,f5,f6,f7,k1,k2,k3,k4,k5,k6,k7,k8,his])|(refine gC_drawW ?_)|(refine gI_dec (fun _=>?_) (fun _=>?_))|(refine gG_dec (fun _=>?_) (fun _=>?_))|(refine gPG_dec (fun _=>?_) (fun _=>?_))|(refine gI_var (fun _=>?_) (fun _=>?_))|(refine gG_var (fun _=>?_) (fun _=>?_))|(refine gPG_var (fun _=>?_) (fun _=>?_)))
   have hh:=hgo (vu,vv) (by rw[hrd,if_pos his,hu,hv];rfl)
   have m1:¬ (nx=6):=by omega
   have m2:¬ (nx=4):=by omega
   have m3:¬ (nx=3):=by omega
   have m4:¬ (nx=2):=by omega
   have m5:¬ (nx=1):=by omega
   have m6:¬ (nx=0):=by omega
   have hnx4:C4.w0.nx=nx:=h4n
   refine ⟨Nat.zero_le _,trivial,_,weak_keep [7,nx+1,5,4,3,2,1,0] (by simp;omega) (by simp;omega) (by omega),Eq.mp (congrArg (Q2 _) ?_) hh⟩
   simp[baseV,runC_append,iD,idR,renH,aget_cons,renO,recO,vrenL,vren,codeOf,b1,b2,b3,b4,b5,b6,b7,b8,g1,g2,g3,g4,g5,g6,g7,f1,f2,f3,f4,f5,f6,f7,k1,k2,k3,k4,k5,k6,k7,k8,m1,m2,m3,m4,m5,m6]
  ·repeat' (first|(simp (disch:=first|omega|assumption|(refine @id ((_:Bool)=_) ?_;exact id (by with_unfolding_all rfl))|(exact Or.inl rfl)|(exact Or.inl trivial)|(exact okL_map _ (fun _=>rfl) _)|(simp only[VVlen]<;>omega)|fail) only[VV0,VV1,VV2,VV3,VV4,VV5,VV6,VV7,VV8,VV9,mkFnV,vargs,slotsL,opdsA,Nat.reduceEqDiff,Nat.reduceLT,Nat.reduceAdd,Nat.reduceBEq,Int.reduceAdd,Int.reduceSub,Int.reduceLT,Int.reduceLE,Int.reduceEq,Int.reduceNeg,↓reduceIte,reduceCtorEq,scL,scD,expand,List.replicate,baseV,eqIf_ifc,eqIf_nil,eqIfA_nn,b1,b2,b3,b4,b5,b6,b7,b8,g1,g2,g3,g4,g5,g6,g7,f1,f2,f3,f4,f5,f6,f7,k1,k2,k3,k4,k5,k6,k7,k8,his])|(refine gC_drawW ?_)|(refine gI_dec (fun _=>?_) (fun _=>?_))|(refine gG_dec (fun _=>?_) (fun _=>?_))|(refine gPG_dec (fun _=>?_) (fun _=>?_))|(refine gI_var (fun _=>?_) (fun _=>?_))|(refine gG_var (fun _=>?_) (fun _=>?_))|(refine gPG_var (fun _=>?_) (fun _=>?_)))
   exact ⟨Nat.zero_le _,trivial,_,(weak_front (aget_fresh _ _ (by simp;omega))).trans (.refl _ _),hstop (by rw[hrd,if_pos his,hu,hv];rfl) _ (by omega)⟩
 ·repeat' (first|(simp (disch:=first|omega|assumption|(refine @id ((_:Bool)=_) ?_;exact id (by with_unfolding_all rfl))|(exact Or.inl rfl)|(exact Or.inl trivial)|(exact okL_map _ (fun _=>rfl) _)|(simp only[VVlen]<;>omega)|fail) only[VV0,VV1,VV2,VV3,VV4,VV5,VV6,VV7,VV8,VV9,mkFnV,vargs,slotsL,opdsA,Nat.reduceEqDiff,Nat.reduceLT,Nat.reduceAdd,Nat.reduceBEq,Int.reduceAdd,Int.reduceSub,Int.reduceLT,Int.reduceLE,Int.reduceEq,Int.reduceNeg,↓reduceIte,reduceCtorEq,scL,scD,expand,List.replicate,baseV,eqIf_ifc,eqIf_nil,eqIfA_nn,b1,b2,b3,b4,b5,b6,b7,b8,g1,g2,g3,g4,g5,g6,g7,f1,f2,f3,f4,f5,f6,f7,k1,k2,k3,k4,k5,k6,k7,k8,his])|(refine gC_drawW ?_)|(refine gI_dec (fun _=>?_) (fun _=>?_))|(refine gG_dec (fun _=>?_) (fun _=>?_))|(refine gPG_dec (fun _=>?_) (fun _=>?_))|(refine gI_var (fun _=>?_) (fun _=>?_))|(refine gG_var (fun _=>?_) (fun _=>?_))|(refine gPG_var (fun _=>?_) (fun _=>?_)))
  refine atoi_any w (n+6) hcs v (by omega) hes her (fun vv hv=>?_) (fun hv kv cv=>?_)
  ·repeat' (first|(simp (disch:=first|omega|assumption|(refine @id ((_:Bool)=_) ?_;exact id (by with_unfolding_all rfl))|(exact Or.inl rfl)|(exact Or.inl trivial)|(exact okL_map _ (fun _=>rfl) _)|(simp only[VVlen]<;>omega)|fail) only[VV0,VV1,VV2,VV3,VV4,VV5,VV6,VV7,VV8,VV9,mkFnV,vargs,slotsL,opdsA,Nat.reduceEqDiff,Nat.reduceLT,Nat.reduceAdd,Nat.reduceBEq,Int.reduceAdd,Int.reduceSub,Int.reduceLT,Int.reduceLE,Int.reduceEq,Int.reduceNeg,↓reduceIte,reduceCtorEq,scL,scD,expand,List.replicate,baseV,eqIf_ifc,eqIf_nil,eqIfA_nn,b1,b2,b3,b4,b5,b6,b7,b8,g1,g2,g3,g4,g5,g6,g7,f1,f2,f3,f4,f5,f6,f7,k1,k2,k3,k4,k5,k6,k7,k8,his])|(refine gC_drawW ?_)|(refine gI_dec (fun _=>?_) (fun _=>?_))|(refine gG_dec (fun _=>?_) (fun _=>?_))|(refine gPG_dec (fun _=>?_) (fun _=>?_))|(refine gI_var (fun _=>?_) (fun _=>?_))|(refine gG_var (fun _=>?_) (fun _=>?_))|(refine gPG_var (fun _=>?_) (fun _=>?_)))
   exact ⟨Nat.zero_le _,trivial,_,(weak_front (aget_fresh _ _ (by simp;omega))).trans (.refl _ _),hstop (by rw[hrd,if_pos his,hu];rfl) _ (by omega)⟩
  ·repeat' (first|(simp (disch:=first|omega|assumption|(refine @id ((_:Bool)=_) ?_;exact id (by with_unfolding_all rfl))|(exact Or.inl rfl)|(exact Or.inl trivial)|(exact okL_map _ (fun _=>rfl) _)|(simp only[VVlen]<;>omega)|fail) only[VV0,VV1,VV2,VV3,VV4,VV5,VV6,VV7,VV8,VV9,mkFnV,vargs,slotsL,opdsA,Nat.reduceEqDiff,Nat.reduceLT,Nat.reduceAdd,Nat.reduceBEq,Int.reduceAdd,Int.reduceSub,Int.reduceLT,Int.reduceLE,Int.reduceEq,Int.reduceNeg,↓reduceIte,reduceCtorEq,scL,scD,expand,List.replicate,baseV,eqIf_ifc,eqIf_nil,eqIfA_nn,b1,b2,b3,b4,b5,b6,b7,b8,g1,g2,g3,g4,g5,g6,g7,f1,f2,f3,f4,f5,f6,f7,k1,k2,k3,k4,k5,k6,k7,k8,his])|(refine gC_drawW ?_)|(refine gI_dec (fun _=>?_) (fun _=>?_))|(refine gG_dec (fun _=>?_) (fun _=>?_))|(refine gPG_dec (fun _=>?_) (fun _=>?_))|(refine gI_var (fun _=>?_) (fun _=>?_))|(refine gG_var (fun _=>?_) (fun _=>?_))|(refine gPG_var (fun _=>?_) (fun _=>?_)))
   exact ⟨Nat.zero_le _,trivial,_,(weak_front (aget_fresh _ _ (by simp;omega))).trans ((weak_front (aget_fresh _ _ (by simp;omega))).trans (.refl _ _)),hstop (by rw[hrd,if_pos his,hu];rfl) _ (by omega)⟩
theorem parse_p (s:List UInt8) (hl:s.length≤100000) (hes:(errO Tryd.prog w "strconv.ErrSyntax").isSome=true) (her:(errO Tryd.prog w "strconv.ErrRange").isSome=true):VSpec (EN w (n+8)) 30 [strV s] (sl2 (pparseF s)) ⟨[],0,0⟩:=by
 refine vspec_g rfl rfl (fun _ _=>rfl) (Nat.le_of_ble_eq_true rfl) (oldVals w) retOK_fin rfl fun C hC hn=>?_
 have hsz:=mk_size s
 by_cases hs:s= []
 ·subst hs
  repeat' (first|(simp (disch:=first|omega|assumption|(refine @id ((_:Bool)=_) ?_;exact id (by with_unfolding_all rfl))|(exact Or.inl rfl)|(exact Or.inl trivial)|(exact okL_map _ (fun _=>rfl) _)|(simp only[VVlen]<;>omega)|fail) only[VV0,VV1,VV2,VV3,VV4,VV5,VV6,VV7,VV8,VV9,mkFnV,vargs,slotsL,opdsA,Nat.reduceEqDiff,Nat.reduceLT,Nat.reduceAdd,Nat.reduceBEq,Int.reduceAdd,Int.reduceSub,Int.reduceLT,Int.reduceLE,Int.reduceEq,Int.reduceNeg,↓reduceIte,reduceCtorEq,scL,scD,expand,List.replicate,c30])|(refine gC_drawW ?_)|(refine gI_dec (fun _=>?_) (fun _=>?_))|(refine gG_dec (fun _=>?_) (fun _=>?_))|(refine gPG_dec (fun _=>?_) (fun _=>?_))|(refine gI_var (fun _=>?_) (fun _=>?_))|(refine gG_var (fun _=>?_) (fun _=>?_))|(refine gPG_var (fun _=>?_) (fun _=>?_)))
  exact weak_finNil hn rfl
 have hs':¬ (ByteArray.mk s.toArray=ByteArray.mk #[]):=fun h=>hs (by
  have:=congrArg (fun b:ByteArray=>b.data.toList) h
  simpa using this)
 repeat' (first|(simp (disch:=first|omega|assumption|(refine @id ((_:Bool)=_) ?_;exact id (by with_unfolding_all rfl))|(exact Or.inl rfl)|(exact Or.inl trivial)|(exact okL_map _ (fun _=>rfl) _)|(simp only[VVlen]<;>omega)|fail) only[VV0,VV1,VV2,VV3,VV4,VV5,VV6,VV7,VV8,VV9,mkFnV,vargs,slotsL,opdsA,Nat.reduceEqDiff,Nat.reduceLT,Nat.reduceAdd,Nat.reduceBEq,Int.reduceAdd,Int.reduceSub,Int.reduceLT,Int.reduceLE,Int.reduceEq,Int.reduceNeg,↓reduceIte,reduceCtorEq,scL,scD,expand,List.replicate,c30,hs'])|(refine gC_drawW ?_)|(refine gI_dec (fun _=>?_) (fun _=>?_))|(refine gG_dec (fun _=>?_) (fun _=>?_))|(refine gPG_dec (fun _=>?_) (fun _=>?_))|(refine gI_var (fun _=>?_) (fun _=>?_))|(refine gG_var (fun _=>?_) (fun _=>?_))|(refine gPG_var (fun _=>?_) (fun _=>?_)))
 refine callV_of (by rw[hC];exact splitSeq_p w (n+5) s 32) rfl rfl rfl ?_
 repeat' (first|(simp (disch:=first|omega|assumption|(refine @id ((_:Bool)=_) ?_;exact id (by with_unfolding_all rfl))|(exact Or.inl rfl)|(exact Or.inl trivial)|(exact okL_map _ (fun _=>rfl) _)|(simp only[VVlen]<;>omega)|fail) only[VV0,VV1,VV2,VV3,VV4,VV5,VV6,VV7,VV8,VV9,mkFnV,vargs,slotsL,opdsA,Nat.reduceEqDiff,Nat.reduceLT,Nat.reduceAdd,Nat.reduceBEq,Int.reduceAdd,Int.reduceSub,Int.reduceLT,Int.reduceLE,Int.reduceEq,Int.reduceNeg,↓reduceIte,reduceCtorEq,scL,scD,expand,List.replicate,vsh,vshL,shH,shO,fzSL,fzS])|(refine gC_drawW ?_)|(refine gI_dec (fun _=>?_) (fun _=>?_))|(refine gG_dec (fun _=>?_) (fun _=>?_))|(refine gPG_dec (fun _=>?_) (fun _=>?_))|(refine gI_var (fun _=>?_) (fun _=>?_))|(refine gG_var (fun _=>?_) (fun _=>?_))|(refine gPG_var (fun _=>?_) (fun _=>?_)))
 refine g_rangeW (weak_nilCell (C:=C) (l:= [.sc (.slice none 0 0)]) 2 24 1 0 58 2 rfl rfl (fun h=>absurd (show (2:Nat)=6 from h) (by decide))) ?_
 refine g_range hC rfl rfl rfl (Nat.le_of_ble_eq_true rfl) rfl (Nat.zero_le _) fun C2 h2n h2r h2p h2o hT=>?_
 repeat' (first|(simp (disch:=first|omega|assumption|(refine @id ((_:Bool)=_) ?_;exact id (by with_unfolding_all rfl))|(exact Or.inl rfl)|(exact Or.inl trivial)|(exact okL_map _ (fun _=>rfl) _)|(simp only[VVlen]<;>omega)|fail) only[VV0,VV1,VV2,VV3,VV4,VV5,VV6,VV7,VV8,VV9,mkFnV,vargs,slotsL,opdsA,Nat.reduceEqDiff,Nat.reduceLT,Nat.reduceAdd,Nat.reduceBEq,Int.reduceAdd,Int.reduceSub,Int.reduceLT,Int.reduceLE,Int.reduceEq,Int.reduceNeg,↓reduceIte,reduceCtorEq,scL,scD,expand,List.replicate])|(refine gC_drawW ?_)|(refine gI_dec (fun _=>?_) (fun _=>?_))|(refine gG_dec (fun _=>?_) (fun _=>?_))|(refine gPG_dec (fun _=>?_) (fun _=>?_))|(refine gI_var (fun _=>?_) (fun _=>?_))|(refine gG_var (fun _=>?_) (fun _=>?_))|(refine gPG_var (fun _=>?_) (fun _=>?_)))
 refine split_iter (d:=7) (oP:=4) (oS:=3) (oV:=5) (c:=32) (s:=s) w (n+2)
  (fun dn r st=>∃ (g nx:Nat) (Q:List (Int × Int)),(g ≠ 0∧g ≠ 1∧g ≠ 2∧g ≠ 3∧g ≠ 4∧g ≠ 5∧g ≠ 7∧g<nx∧7<nx)∧parseA dn=some Q∧st=⟨(7,recO 0)::baseV g Q r 0,nx,0⟩)
  (fun st=>∃ (g nx:Nat) (Q:List (Int × Int)) (r:List UInt8),(g ≠ 0∧g ≠ 1∧g ≠ 2∧g ≠ 3∧g ≠ 4∧g ≠ 5∧g ≠ 7∧g<nx∧7<nx)∧parseA (words 32 s)=none∧st=⟨(7,recO (codeOf .ret))::baseV g Q r 12,nx,0⟩)
  h2p h2o h2r (by omega) hT ?_ ?_ ?_ ?_ ?_ _ ⟨6,8,[],by decide,rfl,rfl⟩
 ·rintro dn r st ⟨g,nx,Q,⟨g1,g2,g3,g4,g5,g6,g7,g8,g9⟩,hQ,rfl⟩
  have f1:=Ne.symm g1
  have f2:=Ne.symm g2
  have f3:=Ne.symm g3
  have f4:=Ne.symm g4
  have f5:=Ne.symm g5
  have f6:=Ne.symm g6
  refine ⟨?_,?_,?_,Nat.zero_le _⟩
  all_goals simp[aget_cons,f1,f2,f3,f4,f5,f6]
 ·rintro dn r x ws st Q2 hw hwr ⟨g,nx,Q,⟨g1,g2,g3,g4,g5,g6,g7,g8,g9⟩,hQ,rfl⟩ hgo hstop
  have hxm:x ∈ words 32 s:=by rw[hw,hwr];simp
  obtain ⟨hwl,hwx⟩:=words_len (c:=32) s.length (s:=s) (Nat.le_refl _)
  have hx1:=hwx x hxm
  have hQl:Q.length≤200000:=by
   have h1:=parseA_len hQ
   have h2:(words 32 s).length=dn.length+(words 32 r).length:=by rw[hw];simp
   omega
  refine parse_round w n hC hes her _ x r (by omega) g nx Q hQl g1 g2 g3 g4 g5 g6 g7 g8 g9 Q2 (fun p hp=>?_) (fun hp nx' hnx=>?_)
  ·refine hgo _ ⟨nx+1,nx+2,Q++ [p],by omega,?_,rfl⟩
   rw[parseA_append _ hQ]
   simp only[parseA,hp,Option.bind_some,Option.map_some]
  ·refine hstop _ ⟨g,nx',Q,r,by omega,?_,rfl⟩
   rw[hw,hwr,parseA_append _ hQ]
   simp only[parseA,hp,Option.bind_none,Option.map_none]
 ·rintro dn r r' st ⟨g,nx,Q,⟨g1,g2,g3,g4,g5,g6,g7,g8,g9⟩,hQ,rfl⟩
  have f4:=Ne.symm g4
  refine ⟨g,nx,Q,⟨g1,g2,g3,g4,g5,g6,g7,g8,g9⟩,hQ,?_⟩
  simp[aset_cons',f4]
 ·rintro fr st r ⟨g,nx,Q,⟨g1,g2,g3,g4,g5,g6,g7,g8,g9⟩,hQ,rfl⟩
  refine ⟨fun i h=>(by cases h),Nat.zero_le _,0,.normal,rfl,rfl,?_⟩
  have f1:=Ne.symm g1
  have f2:=Ne.symm g2
  have f3:=Ne.symm g3
  have f7:=Ne.symm g7
  have f4:=Ne.symm g4
  have f5:=Ne.symm g5
  have f6:=Ne.symm g6
  have hpe:pparseF s=if (expF Q).2 ≠ 0 then ([],12) else if (textF (expF Q).1).1=s then ((expF Q).1,0) else ([],12):=by
   unfold pparseF
   rw[if_neg hs,hQ]
  have hQl:Q.length≤200000:=by
   have h1:=parseA_len hQ
   have h2:=(words_len (c:=32) s.length (s:=s) (Nat.le_refl _)).1
   omega
  have hel:(expF Q).1.length≤4000:=by
   unfold expF
   split
   ·split
    ·have:=(sumR_nn (R:=Q) (by assumption)).2
     simp only;omega
    ·simp
   ·simp
  rw[hpe]
  repeat' (first|(simp (disch:=first|omega|assumption|(refine @id ((_:Bool)=_) ?_;exact id (by with_unfolding_all rfl))|(exact Or.inl rfl)|(exact Or.inl trivial)|(exact okL_map _ (fun _=>rfl) _)|(simp only[VVlen]<;>omega)|fail) only[VV0,VV1,VV2,VV3,VV4,VV5,VV6,VV7,VV8,VV9,mkFnV,vargs,slotsL,opdsA,Nat.reduceEqDiff,Nat.reduceLT,Nat.reduceAdd,Nat.reduceBEq,Int.reduceAdd,Int.reduceSub,Int.reduceLT,Int.reduceLE,Int.reduceEq,Int.reduceNeg,↓reduceIte,reduceCtorEq,scL,scD,expand,List.replicate,f1,f2,f3,f4,f5,f6,f7,g1,g2,g3,g4,g5,g6,g7])|(refine gC_drawW ?_)|(refine gI_dec (fun _=>?_) (fun _=>?_))|(refine gG_dec (fun _=>?_) (fun _=>?_))|(refine gPG_dec (fun _=>?_) (fun _=>?_))|(refine gI_var (fun _=>?_) (fun _=>?_))|(refine gG_var (fun _=>?_) (fun _=>?_))|(refine gPG_var (fun _=>?_) (fun _=>?_)))
  by_cases he:(expF Q).2=0
  case neg=>
   rw[if_pos he]
   refine callV_of (by rw[hC];exact expand_p w (n+3) 2 Q (by omega)) (snapR _ _ _ _) (rowsB_gro 0 _ g 58 2 false _ [] (by rw[aget_cons,if_pos rfl]) (Nat.zero_le _) rfl) rfl ?_
   repeat' (first|(simp (disch:=first|omega|assumption|(refine @id ((_:Bool)=_) ?_;exact id (by with_unfolding_all rfl))|(exact Or.inl rfl)|(exact Or.inl trivial)|(exact okL_map _ (fun _=>rfl) _)|(simp only[VVlen]<;>omega)|fail) only[VV0,VV1,VV2,VV3,VV4,VV5,VV6,VV7,VV8,VV9,mkFnV,vargs,slotsL,opdsA,Nat.reduceEqDiff,Nat.reduceLT,Nat.reduceAdd,Nat.reduceBEq,Int.reduceAdd,Int.reduceSub,Int.reduceLT,Int.reduceLE,Int.reduceEq,Int.reduceNeg,↓reduceIte,reduceCtorEq,scL,scD,expand,List.replicate,vsh,vshL,shH,shO,fzSL,fzS,f1,f2,f3,f4,f5,f6,f7,g1,g2,g3,g4,g5,g6,g7])|(refine gC_drawW ?_)|(refine gI_dec (fun _=>?_) (fun _=>?_))|(refine gG_dec (fun _=>?_) (fun _=>?_))|(refine gPG_dec (fun _=>?_) (fun _=>?_))|(refine gI_var (fun _=>?_) (fun _=>?_))|(refine gG_var (fun _=>?_) (fun _=>?_))|(refine gPG_var (fun _=>?_) (fun _=>?_)))
   all_goals try (exfalso;omega)
   exact weak_finNil hn rfl
  rw[if_neg (fun h=>h he)]
  refine callV_of (by rw[hC];exact expand_p w (n+3) 2 Q (by omega)) (snapR _ _ _ _) (rowsB_gro 0 _ g 58 2 false _ [] (by rw[aget_cons,if_pos rfl]) (Nat.zero_le _) rfl) rfl ?_
  repeat' (first|(simp (disch:=first|omega|assumption|(refine @id ((_:Bool)=_) ?_;exact id (by with_unfolding_all rfl))|(exact Or.inl rfl)|(exact Or.inl trivial)|(exact okL_map _ (fun _=>rfl) _)|(simp only[VVlen]<;>omega)|fail) only[VV0,VV1,VV2,VV3,VV4,VV5,VV6,VV7,VV8,VV9,mkFnV,vargs,slotsL,opdsA,Nat.reduceEqDiff,Nat.reduceLT,Nat.reduceAdd,Nat.reduceBEq,Int.reduceAdd,Int.reduceSub,Int.reduceLT,Int.reduceLE,Int.reduceEq,Int.reduceNeg,↓reduceIte,reduceCtorEq,scL,scD,expand,List.replicate,vsh,vshL,shH,shO,fzSL,fzS,he,f1,f2,f3,f4,f5,f6,f7,g1,g2,g3,g4,g5,g6,g7])|(refine gC_drawW ?_)|(refine gI_dec (fun _=>?_) (fun _=>?_))|(refine gG_dec (fun _=>?_) (fun _=>?_))|(refine gPG_dec (fun _=>?_) (fun _=>?_))|(refine gI_var (fun _=>?_) (fun _=>?_))|(refine gG_var (fun _=>?_) (fun _=>?_))|(refine gPG_var (fun _=>?_) (fun _=>?_)))
  refine callV_flat (by rw[hC];exact (text_p w n 3 (by decide) (expF Q).1 (by omega)).flat rfl rfl) ?_
  by_cases ht:(textF (expF Q).1).1=s
  ·rw[if_pos ht]
   repeat' (first|(simp (disch:=first|omega|assumption|(refine @id ((_:Bool)=_) ?_;exact id (by with_unfolding_all rfl))|(exact Or.inl rfl)|(exact Or.inl trivial)|(exact okL_map _ (fun _=>rfl) _)|(simp only[VVlen]<;>omega)|fail) only[VV0,VV1,VV2,VV3,VV4,VV5,VV6,VV7,VV8,VV9,mkFnV,vargs,slotsL,opdsA,Nat.reduceEqDiff,Nat.reduceLT,Nat.reduceAdd,Nat.reduceBEq,Int.reduceAdd,Int.reduceSub,Int.reduceLT,Int.reduceLE,Int.reduceEq,Int.reduceNeg,↓reduceIte,reduceCtorEq,scL,scD,expand,List.replicate,mk_inj,ht,f1,f2,f3,f4,f5,f6,f7,g1,g2,g3,g4,g5,g6,g7])|(refine gC_drawW ?_)|(refine gI_dec (fun _=>?_) (fun _=>?_))|(refine gG_dec (fun _=>?_) (fun _=>?_))|(refine gPG_dec (fun _=>?_) (fun _=>?_))|(refine gI_var (fun _=>?_) (fun _=>?_))|(refine gG_var (fun _=>?_) (fun _=>?_))|(refine gPG_var (fun _=>?_) (fun _=>?_)))
   exact weak_to [] 0 hn rfl rfl rfl rfl
  ·rw[if_neg ht]
   repeat' (first|(simp (disch:=first|omega|assumption|(refine @id ((_:Bool)=_) ?_;exact id (by with_unfolding_all rfl))|(exact Or.inl rfl)|(exact Or.inl trivial)|(exact okL_map _ (fun _=>rfl) _)|(simp only[VVlen]<;>omega)|fail) only[VV0,VV1,VV2,VV3,VV4,VV5,VV6,VV7,VV8,VV9,mkFnV,vargs,slotsL,opdsA,Nat.reduceEqDiff,Nat.reduceLT,Nat.reduceAdd,Nat.reduceBEq,Int.reduceAdd,Int.reduceSub,Int.reduceLT,Int.reduceLE,Int.reduceEq,Int.reduceNeg,↓reduceIte,reduceCtorEq,scL,scD,expand,List.replicate,mk_inj,ht,f1,f2,f3,f4,f5,f6,f7,g1,g2,g3,g4,g5,g6,g7])|(refine gC_drawW ?_)|(refine gI_dec (fun _=>?_) (fun _=>?_))|(refine gG_dec (fun _=>?_) (fun _=>?_))|(refine gPG_dec (fun _=>?_) (fun _=>?_))|(refine gI_var (fun _=>?_) (fun _=>?_))|(refine gG_var (fun _=>?_) (fun _=>?_))|(refine gPG_var (fun _=>?_) (fun _=>?_)))
   exact weak_finNil hn rfl
 ·rintro ex fr st hex ⟨g,nx,Q,r,⟨g1,g2,g3,g4,g5,g6,g7,g8,g9⟩,hQ,rfl⟩
  refine ⟨hex,Nat.zero_le _,_,.ret,rfl,rfl,?_⟩
  have f1:=Ne.symm g1
  have f2:=Ne.symm g2
  have f7:=Ne.symm g7
  have hpe:pparseF s=([],12):=by
   unfold pparseF
   rw[if_neg hs,hQ]
  rw[hpe]
  repeat' (first|(simp (disch:=first|omega|assumption|(refine @id ((_:Bool)=_) ?_;exact id (by with_unfolding_all rfl))|(exact Or.inl rfl)|(exact Or.inl trivial)|(exact okL_map _ (fun _=>rfl) _)|(simp only[VVlen]<;>omega)|fail) only[VV0,VV1,VV2,VV3,VV4,VV5,VV6,VV7,VV8,VV9,mkFnV,vargs,slotsL,opdsA,Nat.reduceEqDiff,Nat.reduceLT,Nat.reduceAdd,Nat.reduceBEq,Int.reduceAdd,Int.reduceSub,Int.reduceLT,Int.reduceLE,Int.reduceEq,Int.reduceNeg,↓reduceIte,reduceCtorEq,scL,scD,expand,List.replicate,f1,f2,f7,g1,g2,g7])|(refine gC_drawW ?_)|(refine gI_dec (fun _=>?_) (fun _=>?_))|(refine gG_dec (fun _=>?_) (fun _=>?_))|(refine gPG_dec (fun _=>?_) (fun _=>?_))|(refine gI_var (fun _=>?_) (fun _=>?_))|(refine gG_var (fun _=>?_) (fun _=>?_))|(refine gPG_var (fun _=>?_) (fun _=>?_)))
  exact weak_finNil hn rfl
end
end Go.Proofs.YtgglaaldlegckaaDoor
namespace Go.Proofs.YtgglaaldlegckaaDoor
open Go Go.Itp
set_option maxRecDepth 100000
set_option maxHeartbeats 1000000
set_option linter.unusedSimpArgs false
set_option linter.unusedVariables false
theorem readW_txt {p:Int × Int} (h:okW p):readW (txt1 p)=some p:=by
 obtain ⟨⟨a1,a2⟩,a3,a4⟩:=h
 unfold readW
 rw[cut_txt1 (by omega)]
 have h1:numA (Lib.itoa p.1)=some p.1:=by unfold numA;rw[atoi_itoa (by omega) (by omega)]
 have h2:numA (Lib.itoa p.2)=some p.2:=by unfold numA;rw[atoi_itoa (by omega) (by omega)]
 simp only[if_true,h1,h2,Option.bind_some,Option.map_some]
theorem parseA_txt:∀ {R:List (Int × Int)},(∀ p ∈ R,okW p)→parseA (R.map txt1)=some R
 | [],_=>rfl
 |p::R,h=>by
  simp only[List.map_cons,parseA,readW_txt (h p (by simp)),Option.bind_some,parseA_txt fun q hq=>h q (List.mem_cons_of_mem _ hq),Option.map_some]
theorem chk_expL {R:List (Int × Int)} (h:∀ p ∈ R,okW p) (hs:sumR R≤4000):chk (expL R)=0:=by
 unfold chk
 have hl:=(sumR_nn h).2
 rw[if_neg (by omega),if_pos]
 refine List.all_eq_true.2 fun x hx=>?_
 simp only[expL,List.mem_flatMap] at hx
 obtain ⟨p,hp,hx⟩:=hx
 rw[List.eq_of_mem_replicate hx]
 have:=(h p hp).2
 simp[col,this]
theorem runs_expL {R:List (Int × Int)} (hc:Canon none R) (hs:sumR R≤4000):runsP (expL R) (expL R).length=R:=by
 have h0:=chk_expL (canon_ok hc) hs
 obtain ⟨h1,h2,_⟩:=runs_facts h0 (expL R).length (Nat.le_refl _)
 rw[List.take_length] at h1
 exact expL_inj h2 hc h1
theorem parse_eq (s:List UInt8):pparseF s=rparseF s:=by
 unfold pparseF rparseF
 by_cases hs:s= []
 ·rw[if_pos hs,if_pos hs]
 rw[if_neg hs,if_neg hs]
 cases hr:parseR none (words 32 s) with
 |some R=>
  obtain ⟨hw,hc⟩:=parseR_some hr
  have hok:=canon_ok hc
  have ha:parseA (words 32 s)=some R:=by rw[hw];exact parseA_txt hok
  rw[ha]
  simp only
  by_cases he:(expF R).2 ≠ 0
  ·rw[if_pos he,if_pos he]
  rw[if_neg he,if_neg he,if_pos]
  have h1:expF R=if sumR R≤4000 then (expL R,0) else ([],4):=if_pos hok
  have hs4:sumR R≤4000:=by
   by_cases h:sumR R≤4000
   ·exact h
   ·rw[h1,if_neg h] at he
    exact absurd (show ((4:Int) ≠ 0) by decide) he
  have h2:expF R=(expL R,0):=by rw[h1,if_pos hs4]
  rw[h2]
  simp only
  have h3:textF (expL R)=(txt (runsP (expL R) (expL R).length),0):=if_pos (chk_expL hok hs4)
  rw[h3,runs_expL hc hs4]
  show txt R=s
  rw[txt_join,← hw,join_words]
 |none=>
  simp only
  cases ha:parseA (words 32 s) with
  |none=>rfl
  |some R=>
   simp only
   by_cases he:(expF R).2 ≠ 0
   ·rw[if_pos he]
   rw[if_neg he]
   by_cases ht:(textF (expF R).1).1=s
   case neg=>rw[if_neg ht]
   exfalso
   generalize (expF R).1=l at ht
   unfold textF at ht
   split at ht
   case isFalse=>exact hs ht.symm
   rename_i h0
   obtain ⟨_,h2,_⟩:=runs_facts h0 l.length (Nat.le_refl _)
   simp only at ht
   generalize runsP l l.length=S at ht h2
   have hne:S ≠ []:=by
    rintro rfl
    exact hs ht.symm
   have hw:words 32 s=S.map txt1:=by rw[← ht];exact words_txt hne (canon_ok h2)
   rw[hw,parseR_txt h2] at hr
   cases hr
theorem pparse_len (s:List UInt8):(pparseF s).1.length≤4000:=by
 unfold pparseF
 split
 ·simp
 ·split
  ·simp
  ·rename_i R _
   split
   ·simp
   ·split
    ·unfold expF
     split
     ·split
      ·have:=(sumR_nn (R:=R) (by assumption)).2
       simp only;omega
      ·simp
     ·simp
    ·simp
theorem exp_len (R:List (Int × Int)):(expF R).1.length≤4000:=by
 unfold expF
 split
 ·split
  ·have:=(sumR_nn (R:=R) (by assumption)).2
   simp only;omega
  ·simp
 ·simp
theorem reads_g (w:World) (R:List (Int × Int)) (s:List UInt8) (hR:R.length≤140737488351232) (hs:s.length≤9223372036854775807) (hes:(errO Tryd.prog w "strconv.ErrSyntax").isSome=true) (her:(errO Tryd.prog w "strconv.ErrRange").isSome=true) {C:Ctx} (hC:C.E=EN w 8) (h0:C.w0.nx=0):
  gC C c6.code [] (vargs 0 [.sl 3 R.length (runC R),strV s]) ⟨[],0,0⟩ (RetV C c6.res (.sc (.bool true)) ⟨[],0,0⟩):=by
 have hsz:=mk_size s
 have f2:∀ (H:VHp),frozA [] H=H:=frozA_none
 by_cases h1:40<R.length
 ·repeat' (first|(simp (disch:=first|omega|assumption|(refine @id ((_:Bool)=_) ?_;exact id (by with_unfolding_all rfl))|(exact Or.inl rfl)|(exact Or.inl trivial)|(exact okL_map _ (fun _=>rfl) _)|(simp only[VVlen]<;>omega)|fail) only[VV0,VV1,VV2,VV3,VV4,VV5,VV6,VV7,VV8,VV9,mkFnV,vargs,slotsL,opdsA,Nat.reduceEqDiff,Nat.reduceLT,Nat.reduceAdd,Nat.reduceBEq,Int.reduceAdd,Int.reduceSub,Int.reduceLT,Int.reduceLE,Int.reduceEq,Int.reduceNeg,↓reduceIte,reduceCtorEq,scL,scD,expand,List.replicate,c6])|(refine gC_drawW ?_)|(refine gI_dec (fun _=>?_) (fun _=>?_))|(refine gG_dec (fun _=>?_) (fun _=>?_))|(refine gPG_dec (fun _=>?_) (fun _=>?_))|(refine gI_var (fun _=>?_) (fun _=>?_))|(refine gG_var (fun _=>?_) (fun _=>?_))|(refine gPG_var (fun _=>?_) (fun _=>?_)))
  all_goals try (exfalso;omega)
  exact weak_flat rfl h0 rfl
 by_cases h2:200<s.length
 ·repeat' (first|(simp (disch:=first|omega|assumption|(refine @id ((_:Bool)=_) ?_;exact id (by with_unfolding_all rfl))|(exact Or.inl rfl)|(exact Or.inl trivial)|(exact okL_map _ (fun _=>rfl) _)|(simp only[VVlen]<;>omega)|fail) only[VV0,VV1,VV2,VV3,VV4,VV5,VV6,VV7,VV8,VV9,mkFnV,vargs,slotsL,opdsA,Nat.reduceEqDiff,Nat.reduceLT,Nat.reduceAdd,Nat.reduceBEq,Int.reduceAdd,Int.reduceSub,Int.reduceLT,Int.reduceLE,Int.reduceEq,Int.reduceNeg,↓reduceIte,reduceCtorEq,scL,scD,expand,List.replicate,c6])|(refine gC_drawW ?_)|(refine gI_dec (fun _=>?_) (fun _=>?_))|(refine gG_dec (fun _=>?_) (fun _=>?_))|(refine gPG_dec (fun _=>?_) (fun _=>?_))|(refine gI_var (fun _=>?_) (fun _=>?_))|(refine gG_var (fun _=>?_) (fun _=>?_))|(refine gPG_var (fun _=>?_) (fun _=>?_)))
  all_goals try (exfalso;omega)
  exact weak_flat rfl h0 rfl
 have hl1:=exp_len R
 have hl2:=pparse_len s
 repeat' (first|(simp (disch:=first|omega|assumption|(refine @id ((_:Bool)=_) ?_;exact id (by with_unfolding_all rfl))|(exact Or.inl rfl)|(exact Or.inl trivial)|(exact okL_map _ (fun _=>rfl) _)|(simp only[VVlen]<;>omega)|fail) only[VV0,VV1,VV2,VV3,VV4,VV5,VV6,VV7,VV8,VV9,mkFnV,vargs,slotsL,opdsA,Nat.reduceEqDiff,Nat.reduceLT,Nat.reduceAdd,Nat.reduceBEq,Int.reduceAdd,Int.reduceSub,Int.reduceLT,Int.reduceLE,Int.reduceEq,Int.reduceNeg,↓reduceIte,reduceCtorEq,scL,scD,expand,List.replicate,c6])|(refine gC_drawW ?_)|(refine gI_dec (fun _=>?_) (fun _=>?_))|(refine gG_dec (fun _=>?_) (fun _=>?_))|(refine gPG_dec (fun _=>?_) (fun _=>?_))|(refine gI_var (fun _=>?_) (fun _=>?_))|(refine gG_var (fun _=>?_) (fun _=>?_))|(refine gPG_var (fun _=>?_) (fun _=>?_)))
 all_goals try (exfalso;omega)
 refine callV_of (by rw[hC];exact expand_p w 4 3 R (by omega)) rfl rfl rfl ?_
 repeat' (first|(simp (disch:=first|omega|assumption|(refine @id ((_:Bool)=_) ?_;exact id (by with_unfolding_all rfl))|(exact Or.inl rfl)|(exact Or.inl trivial)|(exact okL_map _ (fun _=>rfl) _)|(simp only[VVlen]<;>omega)|fail) only[VV0,VV1,VV2,VV3,VV4,VV5,VV6,VV7,VV8,VV9,mkFnV,vargs,slotsL,opdsA,Nat.reduceEqDiff,Nat.reduceLT,Nat.reduceAdd,Nat.reduceBEq,Int.reduceAdd,Int.reduceSub,Int.reduceLT,Int.reduceLE,Int.reduceEq,Int.reduceNeg,↓reduceIte,reduceCtorEq,scL,scD,expand,List.replicate,vsh,vshL,shH,shO,fzSL,fzS,f2])|(refine gC_drawW ?_)|(refine gI_dec (fun _=>?_) (fun _=>?_))|(refine gG_dec (fun _=>?_) (fun _=>?_))|(refine gPG_dec (fun _=>?_) (fun _=>?_))|(refine gI_var (fun _=>?_) (fun _=>?_))|(refine gG_var (fun _=>?_) (fun _=>?_))|(refine gPG_var (fun _=>?_) (fun _=>?_)))
 refine callV_of (by rw[hC];exact rexpand_p w 7 3 R (by omega)) rfl rfl rfl ?_
 repeat' (first|(simp (disch:=first|omega|assumption|(refine @id ((_:Bool)=_) ?_;exact id (by with_unfolding_all rfl))|(exact Or.inl rfl)|(exact Or.inl trivial)|(exact okL_map _ (fun _=>rfl) _)|(simp only[VVlen]<;>omega)|fail) only[VV0,VV1,VV2,VV3,VV4,VV5,VV6,VV7,VV8,VV9,mkFnV,vargs,slotsL,opdsA,Nat.reduceEqDiff,Nat.reduceLT,Nat.reduceAdd,Nat.reduceBEq,Int.reduceAdd,Int.reduceSub,Int.reduceLT,Int.reduceLE,Int.reduceEq,Int.reduceNeg,↓reduceIte,reduceCtorEq,scL,scD,expand,List.replicate,vsh,vshL,shH,shO,fzSL,fzS,f2])|(refine gC_drawW ?_)|(refine gI_dec (fun _=>?_) (fun _=>?_))|(refine gG_dec (fun _=>?_) (fun _=>?_))|(refine gPG_dec (fun _=>?_) (fun _=>?_))|(refine gI_var (fun _=>?_) (fun _=>?_))|(refine gG_var (fun _=>?_) (fun _=>?_))|(refine gPG_var (fun _=>?_) (fun _=>?_)))
 refine callV_of (by rw[hC];exact parse_p w 0 s (by omega) hes her) rfl rfl rfl ?_
 repeat' (first|(simp (disch:=first|omega|assumption|(refine @id ((_:Bool)=_) ?_;exact id (by with_unfolding_all rfl))|(exact Or.inl rfl)|(exact Or.inl trivial)|(exact okL_map _ (fun _=>rfl) _)|(simp only[VVlen]<;>omega)|fail) only[VV0,VV1,VV2,VV3,VV4,VV5,VV6,VV7,VV8,VV9,mkFnV,vargs,slotsL,opdsA,Nat.reduceEqDiff,Nat.reduceLT,Nat.reduceAdd,Nat.reduceBEq,Int.reduceAdd,Int.reduceSub,Int.reduceLT,Int.reduceLE,Int.reduceEq,Int.reduceNeg,↓reduceIte,reduceCtorEq,scL,scD,expand,List.replicate,vsh,vshL,shH,shO,fzSL,fzS,f2])|(refine gC_drawW ?_)|(refine gI_dec (fun _=>?_) (fun _=>?_))|(refine gG_dec (fun _=>?_) (fun _=>?_))|(refine gPG_dec (fun _=>?_) (fun _=>?_))|(refine gI_var (fun _=>?_) (fun _=>?_))|(refine gG_var (fun _=>?_) (fun _=>?_))|(refine gPG_var (fun _=>?_) (fun _=>?_)))
 refine callV_of (by rw[hC];exact rparse_p w 5 s (by omega)) rfl rfl rfl ?_
 rw[← parse_eq]
 repeat' (first|(simp (disch:=first|omega|assumption|(refine @id ((_:Bool)=_) ?_;exact id (by with_unfolding_all rfl))|(exact Or.inl rfl)|(exact Or.inl trivial)|(exact okL_map _ (fun _=>rfl) _)|(simp only[VVlen]<;>omega)|fail) only[VV0,VV1,VV2,VV3,VV4,VV5,VV6,VV7,VV8,VV9,mkFnV,vargs,slotsL,opdsA,Nat.reduceEqDiff,Nat.reduceLT,Nat.reduceAdd,Nat.reduceBEq,Int.reduceAdd,Int.reduceSub,Int.reduceLT,Int.reduceLE,Int.reduceEq,Int.reduceNeg,↓reduceIte,reduceCtorEq,scL,scD,expand,List.replicate,vsh,vshL,shH,shO,fzSL,fzS,f2])|(refine gC_drawW ?_)|(refine gI_dec (fun _=>?_) (fun _=>?_))|(refine gG_dec (fun _=>?_) (fun _=>?_))|(refine gPG_dec (fun _=>?_) (fun _=>?_))|(refine gI_var (fun _=>?_) (fun _=>?_))|(refine gG_var (fun _=>?_) (fun _=>?_))|(refine gPG_var (fun _=>?_) (fun _=>?_)))
 refine callV_flat (by rw[hC];exact (same_p w 7 3 3 (expF R).1 (by omega)).flat rfl rfl) ?_
 repeat' (first|(simp (disch:=first|omega|assumption|(refine @id ((_:Bool)=_) ?_;exact id (by with_unfolding_all rfl))|(exact Or.inl rfl)|(exact Or.inl trivial)|(exact okL_map _ (fun _=>rfl) _)|(simp only[VVlen]<;>omega)|fail) only[VV0,VV1,VV2,VV3,VV4,VV5,VV6,VV7,VV8,VV9,mkFnV,vargs,slotsL,opdsA,Nat.reduceEqDiff,Nat.reduceLT,Nat.reduceAdd,Nat.reduceBEq,Int.reduceAdd,Int.reduceSub,Int.reduceLT,Int.reduceLE,Int.reduceEq,Int.reduceNeg,↓reduceIte,reduceCtorEq,scL,scD,expand,List.replicate])|(refine gC_drawW ?_)|(refine gI_dec (fun _=>?_) (fun _=>?_))|(refine gG_dec (fun _=>?_) (fun _=>?_))|(refine gPG_dec (fun _=>?_) (fun _=>?_))|(refine gI_var (fun _=>?_) (fun _=>?_))|(refine gG_var (fun _=>?_) (fun _=>?_))|(refine gPG_var (fun _=>?_) (fun _=>?_)))
 refine callV_flat (by rw[hC];exact (same_p w 7 3 3 (pparseF s).1 (by omega)).flat rfl rfl) ?_
 repeat' (first|(simp (disch:=first|omega|assumption|(refine @id ((_:Bool)=_) ?_;exact id (by with_unfolding_all rfl))|(exact Or.inl rfl)|(exact Or.inl trivial)|(exact okL_map _ (fun _=>rfl) _)|(simp only[VVlen]<;>omega)|fail) only[VV0,VV1,VV2,VV3,VV4,VV5,VV6,VV7,VV8,VV9,mkFnV,vargs,slotsL,opdsA,Nat.reduceEqDiff,Nat.reduceLT,Nat.reduceAdd,Nat.reduceBEq,Int.reduceAdd,Int.reduceSub,Int.reduceLT,Int.reduceLE,Int.reduceEq,Int.reduceNeg,↓reduceIte,reduceCtorEq,scL,scD,expand,List.replicate])|(refine gC_drawW ?_)|(refine gI_dec (fun _=>?_) (fun _=>?_))|(refine gG_dec (fun _=>?_) (fun _=>?_))|(refine gPG_dec (fun _=>?_) (fun _=>?_))|(refine gI_var (fun _=>?_) (fun _=>?_))|(refine gG_var (fun _=>?_) (fun _=>?_))|(refine gPG_var (fun _=>?_) (fun _=>?_)))
 exact weak_flat rfl h0 rfl
end Go.Proofs.YtgglaaldlegckaaDoor
namespace Go.Proofs.YtgglaaldlegckaaDoor
open Go Go.Itp
open Go.ChangeShapes Go.WideShapes Go.ChangeAt Go.RowKit
set_option linter.unusedVariables false
set_option maxRecDepth 100000
set_option maxHeartbeats 4000000
theorem reach_lt:reachBytes≤140737488351232:=by decide
theorem cellsI:Tryd.prog.cellsOf 3=1:=by kernel_rfl
theorem cellsR:Tryd.prog.cellsOf 58=2:=by kernel_rfl
theorem bytesR:Tryd.prog.bytesOf 58=16:=by kernel_rfl
def listed:List (String × DataW Unit):= [("math/bits.deBruijn32tab",Rows.laid_math_bits_deBruijn32tab),("math/bits.deBruijn64tab",Rows.laid_math_bits_deBruijn64tab),("internal/strconv.uint64pow10",Rows.laid_internal_strconv_uint64pow10),("unicode/utf8.acceptRanges",Rows.laid_unicode_utf8_acceptRanges),("strconv.ErrRange",Rows.laid_strconv_ErrRange),("strconv.ErrSyntax",Rows.laid_strconv_ErrSyntax),("unicode/utf8.first",Rows.laid_unicode_utf8_first)]
theorem listed_met (os:Os) (args:Array Value):laidMetH Tryd.prog listed ((World.laidAll Tryd.prog os listed).forCall (fun _ _=>0) ⟨#[],args,[]⟩).memory:=by
 rw[MakeChecks.laidMetH_plain _ _ _ (by kernel_rfl)]
 exact laidMet_laidAll _ (by kernel_rfl) (by kernel_rfl)
theorem listed_shaped (os:Os):(World.laidAll Tryd.prog os listed).Shaped Tryd.prog:=World.shaped_of_ZipB (by kernel_rfl) (by kernel_rfl)
theorem stand_ins {l:List TypeId} {t:TypeId} (hall:(l.all fun u=> !Tryd.prog.wantsStandIn u)=true) (h:t ∈ l):Tryd.prog.wantsStandIn t=false:=by
 have:=List.all_eq_true.1 hall t h
 simpa using this
theorem reads_lifted (os:Os) (started:os.Started) (H:Type) (enc:TypeId × Value→H):
  ReturnsInHanded {} Tryd.checked os 6 .any (fun w args=>(Rows.warpReadsSpec.pre enc Tryd.prog Tryd.f6 [] false w args∧laidMetH Tryd.prog listed w)∧sizedMet enc Tryd.prog Tryd.f6 (OpenSpec.ofChange Rows.warpReadsSpec) false w args)
   (Rows.warpReadsSpec.post enc Tryd.prog Tryd.f6 false true false false):=by
 refine returnsInHanded_of_change_and (C:=Tryd.checked) (X:=fun w _=>laidMetH Tryd.prog listed w) (fun _ _ _ hh h=>h.of_heap hh) own started (by kernel_rfl) Tryd.func6
  (ChangeSpec.witness_shaped (enc:=enc) (C:=Tryd.checked) (os:=os) (X:=fun w _=>laidMetH Tryd.prog listed w) false (World.laidAll Tryd.prog os listed) #[.slice none 0 0,.string .empty] 8 (World.laidAll_os _ _ _) (listed_shaped os) (by kernel_rfl) (by kernel_rfl) (by kernel_rfl) (listed_met os _)) ?_
 intro W base args ds gs before hval0 hW _ hsz0 hL _
 have hval:∀ (j:Nat) t v,Tryd.f6.params[j]? =some t→args[j]? =some v→Value.okWide Tryd.prog W .any base t v:=hval0
 have hW':=hW
 obtain ⟨p,q,hA0,hV,rfl,hfz,hnd⟩:=hW
 have hA:DataW.TrodAll enc Tryd.prog W 0 (fun _=>true) true Tryd.f6.params.toList args.toList ds p:=hA0
 have hsz:(DataW.weightsEach Tryd.prog (Tryd.f6.params.toList++Rows.warpReadsSpec.plain.varTypes Tryd.prog) (ds++gs)).all (· ≤reachBytes)=true:=hsz0
 rw[Tryd.params6] at hA hval hsz
 obtain ⟨v0,vs0,d0,ds0,p0,q0,hargs,rfl,rfl,h0,r0⟩:=trodAll_cons hA
 obtain ⟨v1,vs1,d1,ds1,p1,q1,rfl,rfl,rfl,h1,r1⟩:=trodAll_cons r0
 obtain ⟨rfl,rfl,rfl⟩:=trodAll_nil r1
 obtain rfl:args=#[v0,v1]:=by cases args;simp_all
 have hr:=reach_lt
 obtain ⟨l0,hv0,hli0,hlr0⟩:=rd_structs' (α:=Int × Int) (g:=fun p=> [.int .i64 p.1,.int .i64 p.2]) (q:=2) (by decide) (fun a=>⟨rfl,fun c hc=>by simp at hc;rcases hc with rfl|rfl<;>rfl⟩) Tryd.underlying24 cellsR (by rw[bytesR];decide) (hval 0 24 v0 rfl rfl) h0 (weights_at (j:=0) hsz rfl rfl) (fun cs n y hl hy=>dec_two Tryd.underlying58 rfl rfl Tryd.underlying3 Tryd.underlying3 cellsI cellsI cs n y hl hy)
 rw[bytesR] at hlr0
 have hv0:VRep (wOld (oldOf W)) (.sl 3 l0.length (runC l0)) v0:=hv0
 obtain ⟨s1,rfl,hs1⟩:=open_str Tryd.underlying9 (hval 1 9 v1 rfl rfl) h1 (weights_at (j:=1) hsz rfl rfl)
 obtain ⟨x1,rfl⟩:∃ x:List UInt8,s1=⟨x.toArray⟩:=⟨s1.data.toList,by simp⟩
 rw[mk_size] at hs1
 have hLm:laidMet Tryd.prog listed W:=by rw[← MakeChecks.laidMetH_plain _ _ _ (by kernel_rfl)];exact hL
 have htab:Tab W:=laid_tab hLm 2 rfl (g:=3) (t:=135) (e:=108) (k:= .u64) (m:=20) (by kernel_rfl) (by kernel_rfl) Tryd.underlying135 Tryd.underlying108 (by kernel_rfl) (by kernel_rfl) rfl
 have hesy:(errO Tryd.prog W "strconv.ErrSyntax").isSome=true:=laid_errO hLm 5 rfl (g:=1) (t:=70) (by kernel_rfl) (by kernel_rfl) Tryd.underlying70
 have herr:(errO Tryd.prog W "strconv.ErrRange").isSome=true:=laid_errO hLm 4 rfl (g:=2) (t:=70) (by kernel_rfl) (by kernel_rfl) Tryd.underlying70
 obtain ⟨s',hbody⟩:=law_v (old:=oldOf W) (rounds:=many) (fns:=fns) (prims:=PR W) (n:=8) (af:=c6) (xs:= [.sl 3 l0.length (runC l0),.sc (.string ⟨x1.toArray⟩)]) (xsI:= [v0,.string ⟨x1.toArray⟩]) (x:= .bool true) (Nat.le_of_ble_eq_true rfl)
  (by simp only[VRepL];exact ⟨_,_,rfl,hv0,_,_,rfl,.mksc rfl,rfl⟩) fun C hC hn=>reads_g W l0 x1 (by omega) (by omega) hesy herr hC hn
 have hfn:fns 6=some c6:=rfl
 have hrv:ids 0 (.bool true)= []:=rfl
 refine (law_of htab (f:=6) (af:=c6) hfn (xs:= [v0,.string ⟨x1.toArray⟩]) (by simp only[idsL_cons,hli0];rfl) _ hbody hrv).mono fun e W' ⟨he,hbe⟩=>?_
 exact ⟨_,he,law_post hW' rfl rfl (by kernel_rfl) (by kernel_rfl) Tryd.underlying4 hbe⟩
theorem reads_over:Rows.WarpReadsSaid:=
 OpenClaim.holds_of_wide 6 Tryd.f6 rfl rfl rfl rfl rfl rfl rfl ⟨rfl,rfl,rfl,rfl,rfl⟩ rfl rfl rfl rfl rfl (by kernel_rfl) Tryd.func6 (by kernel_rfl)
  (of_decide_eq_true (by kernel_rfl)) (by unfold Func.isWrapper;first|(rw[if_pos (by decide+kernel)];kernel_rfl)|(rw[if_neg (by decide+kernel)];exact ⟨rfl,rfl⟩))
  (fun os started H enc _=>reads_lifted os started H enc)
theorem reads_holds:Rows.WarpReadsCardSaid:=
 Claim7.holds_tied_plain_at .later [] [.data,.data,.data,.data,.sentinel,.sentinel,.pinned] true _ true
  reads_over (fun _ h=>by cases h) (by kernel_rfl) (fun _ h=>by cases h) warpReads_row_tie rfl ⟨rfl,rfl⟩ (by kernel_rfl) rfl
  (fun f fn hf hfn=>by
   obtain rfl:f=6:=Option.some.inj ((show Tryd.prog.funcNamed "raddle/raddlelaw22.WarpReads"=some 6 by kernel_rfl).symm.trans hf)|>.symm
   obtain rfl:fn=Tryd.f6:=(Option.some.inj (Tryd.func6.symm.trans hfn)).symm
   exact ⟨by kernel_rfl,fun j t ht=>stand_ins (l:= [24,9]) (by kernel_rfl) (by rw[Tryd.params6] at ht;simpa using Array.mem_of_getElem? ht)⟩)
  (by kernel_rfl)
#print axioms reads_holds
end Go.Proofs.YtgglaaldlegckaaDoor
