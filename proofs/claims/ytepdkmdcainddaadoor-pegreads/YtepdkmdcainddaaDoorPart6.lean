/- Part of the proof of Rows.PegReadsCardSaid: for every input the law returns true, with no condition.
   Texts: W18q, W18r, VT7, W18s, W18t, W18u, W18v, W18x.
-/
import Derived.Test.YtepdkmdcainddaaDoorPart5
import Derived.Test.YtepdkmdcainddaaDoorCards
import Derived.Test.YtepdkmdcainddaaDoorTie
import Derived.SizedLaws
import Derived.ChangeAt
import Derived.SevenTiedAt
import Derived.Stop.Joined
import Derived.Lay
namespace Go.Proofs.YtepdkmdcainddaaDoor
open Go Go.Itp
set_option maxRecDepth 100000
set_option maxHeartbeats 2000000
set_option linter.unusedSimpArgs false
set_option linter.unusedVariables false
theorem weak_finT3 {C:Ctx} {st:VSt} {a b x:Value} {v:V} {s n:Nat} {l:List D} (hs:snapV st.own v=some (.sl s n l)) (hrow:rowsB st.ro st.own (fzS v)=true) (hk:s ≠ 1∨n ≠ 0) (h0:C.w0.nx=0) (hro:st.ro=0):Weak C [(0,.tup [.agg [.sc a,.sc b,v],.sc x])] st [(0,.tup [.agg [.sc a,.sc b,.sl 3 n l],.sc x])] ⟨[],0,0⟩:=by
 have e1:fzS (.tup [.agg [.sc a,.sc b,v],.sc x])=fzS v:=by simp[fzS,fzSL]
 have e2:snapV st.own (.tup [.agg [.sc a,.sc b,v],.sc x])=some (.tup [.agg [.sc a,.sc b,.sl s n l],.sc x]):=by simp[snapV,snapL,hs]
 refine (weak_snap (t:=0) (v:= .tup [.agg [.sc a,.sc b,v],.sc x]) rfl e2 (by rw[e1];exact hrow)).trans ?_
 refine (weak_slot (t:=0) (v:= .tup [.agg [.sc a,.sc b,.sl s n l],.sc x]) (v':= .tup [.agg [.sc a,.sc b,.sl 3 n l],.sc x]) rfl (same_tup2 (same_agg3 (same_sl3 hk)))).trans ?_
 exact weak_to [] 0 h0 hro rfl rfl rfl
theorem weak_finT3Nil {C:Ctx} {st:VSt} {a b x:Value} (h0:C.w0.nx=0) (hro:st.ro=0):Weak C [(0,.tup [.agg [.sc a,.sc b,.sc (.slice none 0 0)],.sc x])] st [(0,.tup [.agg [.sc a,.sc b,.sl 3 0 []],.sc x])] ⟨[],0,0⟩:=
 (weak_slot (t:=0) (v:= .tup [.agg [.sc a,.sc b,.sc (.slice none 0 0)],.sc x]) (v':= .tup [.agg [.sc a,.sc b,.sl 3 0 []],.sc x]) rfl (same_tup2 (same_agg3 same_nil3))).trans (weak_to [] 0 h0 hro rfl rfl rfl)
theorem retOK_finT3 {n:Nat} {l:List D} {a b x:Value}:RetOK [] (.tup [.agg [.sc a,.sc b,.sl 3 n l],.sc x]):=retOK_nil (by simp only[Cl,ClL,and_true];exact ⟨trivial,trivial,rfl⟩)
def readV (N:Nat):Option (List Bool × Nat)→V
 |some p=> .tup [gridV 3 N p.2 p.1,.sc (.int .i64 0)]
 |none=> .tup [gridV 3 0 0 [],.sc (.int .i64 12)]
theorem retOK_read (N:Nat) (r:Option (List Bool × Nat)):RetOK [] (readV N r):=by
 cases r<;>exact retOK_finT3
theorem words_cons (c:UInt8) (l:List UInt8):∃ x q,l=x++q∧c ∉ x∧((q= []∧words c l= [x])∨∃ q',q=c::q'∧words c l=x::words c q'):=by
 rcases byte_split c l with hf|⟨x,r',rfl,hf⟩
 ·exact ⟨l,[],by simp,hf,.inl ⟨rfl,words_free hf⟩⟩
 ·exact ⟨x,c::r',rfl,hf,.inr ⟨r',rfl,words_app r' hf⟩⟩
theorem rReadL_cons (n:Nat) (x:List UInt8) (ws:List (List UInt8)) (h:ws ≠ []) (B:List Bool) (H:Nat):rReadL n (x::ws) B H=(rowF n x).bind fun R=>if H=64 then none else rReadL n ws (B++R) (H+1):=by
 cases ws with
 |nil=>exact absurd rfl h
 |cons y ws=>rfl
theorem row_length {n:Nat} (hn:1≤n) (hn2:n≤1000) {x:List UInt8} {R:List Bool} (h:rowF n x=some R):R.length=n:=by rw[(row_some hn hn2 h).1,rowP_len]
section
variable (w:World) (n:Nat)
theorem rreadE_p (s:List UInt8) (z:Int) (hz:z<1∨40<z):VSpec (EN w (n+1)) 26 [strV s,.sc (.int .i64 z)] (.tup [gridV 3 0 0 [],.sc (.int .i64 2)]) ⟨[],0,0⟩:=by
 refine vspec_g rfl rfl (fun _ _=>rfl) (Nat.le_of_ble_eq_true rfl) (oldVals w) retOK_finT3 rfl fun C hC h0=>?_
 repeat' (first|(simp (disch:=first|omega|assumption|exact bd (by with_unfolding_all rfl)|exact Or.inl rfl|exact Or.inl trivial|exact okL_map _ (fun _=>rfl) _|(simp only[VVlen]<;>omega)|fail) only[VV0,VV1,VV2,VV3,VV4,VV5,VV6,VV7,VV8,VV9,mkFnV,vargs,slotsL,opdsA,Nat.reduceEqDiff,Nat.reduceLT,Nat.reduceAdd,Nat.reduceBEq,Int.reduceAdd,Int.reduceSub,Int.reduceLT,Int.reduceLE,Int.reduceEq,Int.reduceNeg,↓reduceIte,reduceCtorEq,scL,scD,expand,List.replicate,c26])|apply gC_drawW|((first|apply gI_dec|apply gG_dec|apply gPG_dec|apply gI_var|apply gG_var|apply gPG_var)<;>intro _))
 all_goals try (exfalso;omega)
 all_goals exact weak_finT3Nil h0 rfl
theorem scanL {C:Ctx} (hC:C.E.rounds=many) {s p x q:List UInt8} (hs:s=p++(x++q)) (hl:s.length≤1000000) (hx:10 ∉ x) (hq:q= []∨∃ q',q=10::q') {K:List KF} {P:VPost} {st:VSt} (a b d:V)
  (h:gK C K (.exit 2) [(0,strV s),(1,a),(4,b),(6,d),(7,.sc (.int .i64 p.length)),(8,.sc (.int .i64 ((p.length+x.length:Nat):Int))),(34,.sc (.bool false))] st P):
  gL C [0,1,4,6,7,8] c26l0 K [(0,strV s),(1,a),(4,b),(6,d),(7,.sc (.int .i64 p.length)),(8,.sc (.int .i64 p.length))] st P:=by
 have hsz:=mk_size s
 have hlen:s.length=p.length+x.length+q.length:=by rw[hs];simp;omega
 refine g_while (fun m fr st'=>∃ j:Nat,m=x.length - j∧j≤x.length∧fr= [(0,strV s),(1,a),(4,b),(6,d),(7,.sc (.int .i64 p.length)),(8,.sc (.int .i64 ((p.length+j:Nat):Int)))]∧st'=st) x.length ?_ ⟨_,_,.refl _ _,0,?_⟩ ?_
 ·rw[hC];unfold many;omega
 ·exact ⟨by omega,by omega,by simp,rfl⟩
 ·rintro m fr st' ⟨j,rfl,hj,rfl,rfl⟩
  by_cases hlt:j<x.length
  ·have hb:=idxStr_l s .i64 ((p.length+j:Nat):Int) (by omega) (by omega)
   rw[Int.toNat_natCast,hs,get_mid p x q j hlt,← hs] at hb
   have hne:¬ ((x[j]!.toNat:Nat):Int)=10:=toNat_ne (c:=10) rfl fun e=>hx (by rw[← e];exact mem_get hlt)
   generalize x[j]!.toNat=y at hb hne
   repeat' (first|(simp (disch:=first|omega|assumption|exact bd (by with_unfolding_all rfl)|exact Or.inl rfl|exact Or.inl trivial|exact okL_map _ (fun _=>rfl) _|(simp only[VVlen]<;>omega)|fail) only[VV0,VV1,VV2,VV3,VV4,VV5,VV6,VV7,VV8,VV9,mkFnV,vargs,slotsL,opdsA,Nat.reduceEqDiff,Nat.reduceLT,Nat.reduceAdd,Nat.reduceBEq,Int.reduceAdd,Int.reduceSub,Int.reduceLT,Int.reduceLE,Int.reduceEq,Int.reduceNeg,↓reduceIte,reduceCtorEq,scL,scD,expand,List.replicate,c26l0,hb])|apply gC_drawW|((first|apply gI_dec|apply gG_dec|apply gPG_dec|apply gI_var|apply gG_var|apply gPG_var)<;>intro _))
   all_goals try (exfalso;omega)
   exact ⟨_,_,_,by omega,.refl _ _,j+1,rfl,hlt,by simp[Int.add_assoc],rfl⟩
  ·have:j=x.length:=by omega
   subst this
   rcases hq with rfl|⟨q',rfl⟩
   ·have hq0:([]:List UInt8).length=0:=rfl
    repeat' (first|(simp (disch:=first|omega|assumption|exact bd (by with_unfolding_all rfl)|exact Or.inl rfl|exact Or.inl trivial|exact okL_map _ (fun _=>rfl) _|(simp only[VVlen]<;>omega)|fail) only[VV0,VV1,VV2,VV3,VV4,VV5,VV6,VV7,VV8,VV9,mkFnV,vargs,slotsL,opdsA,Nat.reduceEqDiff,Nat.reduceLT,Nat.reduceAdd,Nat.reduceBEq,Int.reduceAdd,Int.reduceSub,Int.reduceLT,Int.reduceLE,Int.reduceEq,Int.reduceNeg,↓reduceIte,reduceCtorEq,scL,scD,expand,List.replicate,c26l0])|apply gC_drawW|((first|apply gI_dec|apply gG_dec|apply gPG_dec|apply gI_var|apply gG_var|apply gPG_var)<;>intro _))
    all_goals try (exfalso;omega)
    exact h
   ·have hb:=idxStr_l s .i64 ((p.length+x.length:Nat):Int) (by omega) (by rw[hlen];simp;omega)
    rw[Int.toNat_natCast,hs,get_end p x q' 10,← hs] at hb
    have hq0:(10::q').length=q'.length+1:=rfl
    have h32:(((10:UInt8).toNat:Nat):Int)=10:=rfl
    rw[h32] at hb
    repeat' (first|(simp (disch:=first|omega|assumption|exact bd (by with_unfolding_all rfl)|exact Or.inl rfl|exact Or.inl trivial|exact okL_map _ (fun _=>rfl) _|(simp only[VVlen]<;>omega)|fail) only[VV0,VV1,VV2,VV3,VV4,VV5,VV6,VV7,VV8,VV9,mkFnV,vargs,slotsL,opdsA,Nat.reduceEqDiff,Nat.reduceLT,Nat.reduceAdd,Nat.reduceBEq,Int.reduceAdd,Int.reduceSub,Int.reduceLT,Int.reduceLE,Int.reduceEq,Int.reduceNeg,↓reduceIte,reduceCtorEq,scL,scD,expand,List.replicate,c26l0,hb])|apply gC_drawW|((first|apply gI_dec|apply gG_dec|apply gPG_dec|apply gI_var|apply gG_var|apply gPG_var)<;>intro _))
    all_goals try (exfalso;omega)
    exact h
theorem rread_p (s:List UInt8) (N:Nat) (hl:s.length≤100000) (hN1:1≤N) (hN:N≤40):VSpec (EN w (n+4)) 26 [strV s,.sc (.int .i64 N)] (readV N (rreadF N s)) ⟨[],0,0⟩:=by
 refine vspec_g rfl rfl (fun _ _=>rfl) (Nat.le_of_ble_eq_true rfl) (oldVals w) (retOK_read _ _) rfl fun C hC h0=>?_
 have hsz:=mk_size s
 have hrn:C.E.rounds=many:=by rw[hC,callP_rounds]
 unfold rreadF
 repeat' (first|(simp (disch:=first|omega|assumption|exact bd (by with_unfolding_all rfl)|exact Or.inl rfl|exact Or.inl trivial|exact okL_map _ (fun _=>rfl) _|(simp only[VVlen]<;>omega)|fail) only[VV0,VV1,VV2,VV3,VV4,VV5,VV6,VV7,VV8,VV9,mkFnV,vargs,slotsL,opdsA,Nat.reduceEqDiff,Nat.reduceLT,Nat.reduceAdd,Nat.reduceBEq,Int.reduceAdd,Int.reduceSub,Int.reduceLT,Int.reduceLE,Int.reduceEq,Int.reduceNeg,↓reduceIte,reduceCtorEq,scL,scD,expand,List.replicate,c26])|apply gC_drawW|((first|apply gI_dec|apply gG_dec|apply gPG_dec|apply gI_var|apply gG_var|apply gPG_var)<;>intro _))
 all_goals try (exfalso;omega)
 refine g_while (fun m fr st=>∃ (B:List Bool) (H:Nat) (p r:List UInt8),m=r.length∧s=p++r∧H≤64∧B.length=H*N∧rReadL N (words 10 s) [] 0=rReadL N (words 10 r) B H∧fr= [(0,strV s),(1,.sc (.int .i64 N)),(4,.ptr 0 0),(6,.ptr 1 0),(7,.sc (.int .i64 p.length))]∧
   st=⟨[(2,.gro 4 1 false (B.map bD)),(1,.box 24 1 [.sc (.int .i64 N),.sc (.int .i64 H),.gr 2 2 B.length]),(0,.box 24 1 [.sc (.int .i64 0),.sc (.int .i64 0),.sc (.slice none 0 0)])],3,0⟩) s.length ?_ ⟨_,_,weak_nilCell (l:= [.sc (.int .i64 N),.sc (.int .i64 0),.sc (.slice none 0 0)]) 1 24 1 2 4 1 rfl rfl (fun h=>absurd (show (1:Nat)=2 from h) (by decide)),[],0,[],s,rfl,rfl,by omega,by simp,rfl,rfl,rfl⟩ ?_
 ·rw[hrn];unfold many;omega
 rintro m fr st ⟨B,H,p,r,rfl,hs,hH,hB,hloop,rfl,rfl⟩
 have hpl:s.length=p.length+r.length:=by rw[hs];simp
 have hBl:B.length≤64*40:=by rw[hB];exact Nat.mul_le_mul hH hN
 by_cases hr:r= []
 ·subst hr
  have e:rReadL N (words 10 []) B H=if H ≠ 0 then some (B,H) else none:=by simp[words,rReadL]
  have hq0:([]:List UInt8).length=0:=rfl
  rw[hloop,e]
  by_cases hH0:H=0
  ·rw[if_neg (fun h=>h hH0)]
   repeat' (first|(simp (disch:=first|omega|assumption|exact bd (by with_unfolding_all rfl)|exact Or.inl rfl|exact Or.inl trivial|exact okL_map _ (fun _=>rfl) _|(simp only[VVlen]<;>omega)|fail) only[VV0,VV1,VV2,VV3,VV4,VV5,VV6,VV7,VV8,VV9,mkFnV,vargs,slotsL,opdsA,Nat.reduceEqDiff,Nat.reduceLT,Nat.reduceAdd,Nat.reduceBEq,Int.reduceAdd,Int.reduceSub,Int.reduceLT,Int.reduceLE,Int.reduceEq,Int.reduceNeg,↓reduceIte,reduceCtorEq,scL,scD,expand,List.replicate,c26l1,hH0])|apply gC_drawW|((first|apply gI_dec|apply gG_dec|apply gPG_dec|apply gI_var|apply gG_var|apply gPG_var)<;>intro _))
   all_goals try (exfalso;omega)
   exact weak_finT3Nil h0 rfl
  ·rw[if_pos hH0]
   repeat' (first|(simp (disch:=first|omega|assumption|exact bd (by with_unfolding_all rfl)|exact Or.inl rfl|exact Or.inl trivial|exact okL_map _ (fun _=>rfl) _|(simp only[VVlen]<;>omega)|fail) only[VV0,VV1,VV2,VV3,VV4,VV5,VV6,VV7,VV8,VV9,mkFnV,vargs,slotsL,opdsA,Nat.reduceEqDiff,Nat.reduceLT,Nat.reduceAdd,Nat.reduceBEq,Int.reduceAdd,Int.reduceSub,Int.reduceLT,Int.reduceLE,Int.reduceEq,Int.reduceNeg,↓reduceIte,reduceCtorEq,scL,scD,expand,List.replicate,c26l1,hH0])|apply gC_drawW|((first|apply gI_dec|apply gG_dec|apply gPG_dec|apply gI_var|apply gG_var|apply gPG_var)<;>intro _))
   all_goals try (exfalso;omega)
   exact weak_finT3 (s:=2) (snap_grD rfl (by rw[List.length_map])) rfl (.inl (by decide)) h0 rfl
 have hrl:=List.length_pos_iff.2 hr
 obtain ⟨x,q,rfl,hx,hw⟩:=words_cons 10 r
 have hxl:(x++q).length=x.length+q.length:=by simp
 have hq:q= []∨∃ q',q=10::q':=hw.imp And.left fun ⟨q',h,_⟩=>⟨q',h⟩
 have e1:=slcS_both s .i64 .i64 (p.length:Int) ((p.length+x.length:Nat):Int) (by omega) (by omega) (by omega)
 have e2:List.take (p.length+x.length - p.length) (List.drop p.length s)=x:=by
  rw[hs,List.drop_left,Nat.add_sub_cancel_left,List.take_left]
 simp only[Int.toNat_natCast] at e1
 rw[e2] at e1
 have hrow:=row_p w n x N (by omega) hN
 cases hR:rowF N x with
 |none=>
  have e:rReadL N (words 10 (x++q)) B H=none:=by
   rcases hw with ⟨rfl,hw⟩|⟨q',rfl,hw⟩
   ·rw[hw,rReadL,if_neg]
    rintro ⟨hx0,_⟩
    exact hr (by rw[hx0];rfl)
   ·rw[hw,rReadL_cons _ _ _ (words_ne 10 q'),hR];rfl
  rw[hR] at hrow
  rw[hloop,e]
  repeat' (first|(simp (disch:=first|omega|assumption|exact bd (by with_unfolding_all rfl)|exact Or.inl rfl|exact Or.inl trivial|exact okL_map _ (fun _=>rfl) _|(simp only[VVlen]<;>omega)|fail) only[VV0,VV1,VV2,VV3,VV4,VV5,VV6,VV7,VV8,VV9,mkFnV,vargs,slotsL,opdsA,Nat.reduceEqDiff,Nat.reduceLT,Nat.reduceAdd,Nat.reduceBEq,Int.reduceAdd,Int.reduceSub,Int.reduceLT,Int.reduceLE,Int.reduceEq,Int.reduceNeg,↓reduceIte,reduceCtorEq,scL,scD,expand,List.replicate,c26l1])|apply gC_drawW|((first|apply gI_dec|apply gG_dec|apply gPG_dec|apply gI_var|apply gG_var|apply gPG_var)<;>intro _))
  all_goals try (exfalso;omega)
  refine scanL hrn hs (by omega) hx hq _ _ _ ?_
  repeat' (first|(simp (disch:=first|omega|assumption|exact bd (by with_unfolding_all rfl)|exact Or.inl rfl|exact Or.inl trivial|exact okL_map _ (fun _=>rfl) _|(simp only[VVlen]<;>omega)|fail) only[VV0,VV1,VV2,VV3,VV4,VV5,VV6,VV7,VV8,VV9,mkFnV,vargs,slotsL,opdsA,Nat.reduceEqDiff,Nat.reduceLT,Nat.reduceAdd,Nat.reduceBEq,Int.reduceAdd,Int.reduceSub,Int.reduceLT,Int.reduceLE,Int.reduceEq,Int.reduceNeg,↓reduceIte,reduceCtorEq,scL,scD,expand,List.replicate,e1])|apply gC_drawW|((first|apply gI_dec|apply gG_dec|apply gPG_dec|apply gI_var|apply gG_var|apply gPG_var)<;>intro _))
  refine callV_fin (by rw[hC];exact hrow) rfl rfl (fun _=>rfl) ?_
  repeat' (first|(simp (disch:=first|omega|assumption|exact bd (by with_unfolding_all rfl)|exact Or.inl rfl|exact Or.inl trivial|exact okL_map _ (fun _=>rfl) _|(simp only[VVlen]<;>omega)|fail) only[VV0,VV1,VV2,VV3,VV4,VV5,VV6,VV7,VV8,VV9,mkFnV,vargs,slotsL,opdsA,Nat.reduceEqDiff,Nat.reduceLT,Nat.reduceAdd,Nat.reduceBEq,Int.reduceAdd,Int.reduceSub,Int.reduceLT,Int.reduceLE,Int.reduceEq,Int.reduceNeg,↓reduceIte,reduceCtorEq,scL,scD,expand,List.replicate,rowV])|apply gC_drawW|((first|apply gI_dec|apply gG_dec|apply gPG_dec|apply gI_var|apply gG_var|apply gPG_var)<;>intro _))
  all_goals try (exfalso;omega)
  all_goals exact weak_finT3Nil h0 rfl
 |some R=>
  rw[hR] at hrow
  have hRl:=row_length hN1 (by omega) hR
  rcases hw with ⟨rfl,hw⟩|⟨q',rfl,hw⟩
  ·have e:rReadL N (words 10 (x++ [])) B H=none:=by
    rw[hw,rReadL,if_neg]
    rintro ⟨hx0,_⟩
    exact hr (by rw[hx0];rfl)
   have hq0:([]:List UInt8).length=0:=rfl
   rw[hloop,e]
   repeat' (first|(simp (disch:=first|omega|assumption|exact bd (by with_unfolding_all rfl)|exact Or.inl rfl|exact Or.inl trivial|exact okL_map _ (fun _=>rfl) _|(simp only[VVlen]<;>omega)|fail) only[VV0,VV1,VV2,VV3,VV4,VV5,VV6,VV7,VV8,VV9,mkFnV,vargs,slotsL,opdsA,Nat.reduceEqDiff,Nat.reduceLT,Nat.reduceAdd,Nat.reduceBEq,Int.reduceAdd,Int.reduceSub,Int.reduceLT,Int.reduceLE,Int.reduceEq,Int.reduceNeg,↓reduceIte,reduceCtorEq,scL,scD,expand,List.replicate,c26l1])|apply gC_drawW|((first|apply gI_dec|apply gG_dec|apply gPG_dec|apply gI_var|apply gG_var|apply gPG_var)<;>intro _))
   all_goals try (exfalso;omega)
   refine scanL hrn hs (by omega) hx hq _ _ _ ?_
   repeat' (first|(simp (disch:=first|omega|assumption|exact bd (by with_unfolding_all rfl)|exact Or.inl rfl|exact Or.inl trivial|exact okL_map _ (fun _=>rfl) _|(simp only[VVlen]<;>omega)|fail) only[VV0,VV1,VV2,VV3,VV4,VV5,VV6,VV7,VV8,VV9,mkFnV,vargs,slotsL,opdsA,Nat.reduceEqDiff,Nat.reduceLT,Nat.reduceAdd,Nat.reduceBEq,Int.reduceAdd,Int.reduceSub,Int.reduceLT,Int.reduceLE,Int.reduceEq,Int.reduceNeg,↓reduceIte,reduceCtorEq,scL,scD,expand,List.replicate,e1])|apply gC_drawW|((first|apply gI_dec|apply gG_dec|apply gPG_dec|apply gI_var|apply gG_var|apply gPG_var)<;>intro _))
   refine callV_fin (by rw[hC];exact hrow) rfl rfl (fun _=>rfl) ?_
   repeat' (first|(simp (disch:=first|omega|assumption|exact bd (by with_unfolding_all rfl)|exact Or.inl rfl|exact Or.inl trivial|exact okL_map _ (fun _=>rfl) _|(simp only[VVlen]<;>omega)|fail) only[VV0,VV1,VV2,VV3,VV4,VV5,VV6,VV7,VV8,VV9,mkFnV,vargs,slotsL,opdsA,Nat.reduceEqDiff,Nat.reduceLT,Nat.reduceAdd,Nat.reduceBEq,Int.reduceAdd,Int.reduceSub,Int.reduceLT,Int.reduceLE,Int.reduceEq,Int.reduceNeg,↓reduceIte,reduceCtorEq,scL,scD,expand,List.replicate,rowV])|apply gC_drawW|((first|apply gI_dec|apply gG_dec|apply gPG_dec|apply gI_var|apply gG_var|apply gPG_var)<;>intro _))
   all_goals try (exfalso;omega)
   all_goals exact weak_finT3Nil h0 rfl
  have hq0:(10::q').length=q'.length+1:=rfl
  have e:=rReadL_cons N x (words 10 q') (words_ne 10 q') B H
  rw[hR,Option.bind_some,← hw] at e
  by_cases hH6:H=64
  ·rw[if_pos hH6] at e
   rw[hloop,e]
   repeat' (first|(simp (disch:=first|omega|assumption|exact bd (by with_unfolding_all rfl)|exact Or.inl rfl|exact Or.inl trivial|exact okL_map _ (fun _=>rfl) _|(simp only[VVlen]<;>omega)|fail) only[VV0,VV1,VV2,VV3,VV4,VV5,VV6,VV7,VV8,VV9,mkFnV,vargs,slotsL,opdsA,Nat.reduceEqDiff,Nat.reduceLT,Nat.reduceAdd,Nat.reduceBEq,Int.reduceAdd,Int.reduceSub,Int.reduceLT,Int.reduceLE,Int.reduceEq,Int.reduceNeg,↓reduceIte,reduceCtorEq,scL,scD,expand,List.replicate,c26l1])|apply gC_drawW|((first|apply gI_dec|apply gG_dec|apply gPG_dec|apply gI_var|apply gG_var|apply gPG_var)<;>intro _))
   all_goals try (exfalso;omega)
   refine scanL hrn hs (by omega) hx hq _ _ _ ?_
   repeat' (first|(simp (disch:=first|omega|assumption|exact bd (by with_unfolding_all rfl)|exact Or.inl rfl|exact Or.inl trivial|exact okL_map _ (fun _=>rfl) _|(simp only[VVlen]<;>omega)|fail) only[VV0,VV1,VV2,VV3,VV4,VV5,VV6,VV7,VV8,VV9,mkFnV,vargs,slotsL,opdsA,Nat.reduceEqDiff,Nat.reduceLT,Nat.reduceAdd,Nat.reduceBEq,Int.reduceAdd,Int.reduceSub,Int.reduceLT,Int.reduceLE,Int.reduceEq,Int.reduceNeg,↓reduceIte,reduceCtorEq,scL,scD,expand,List.replicate,e1])|apply gC_drawW|((first|apply gI_dec|apply gG_dec|apply gPG_dec|apply gI_var|apply gG_var|apply gPG_var)<;>intro _))
   refine callV_fin (by rw[hC];exact hrow) rfl rfl (fun _=>rfl) ?_
   repeat' (first|(simp (disch:=first|omega|assumption|exact bd (by with_unfolding_all rfl)|exact Or.inl rfl|exact Or.inl trivial|exact okL_map _ (fun _=>rfl) _|(simp only[VVlen]<;>omega)|fail) only[VV0,VV1,VV2,VV3,VV4,VV5,VV6,VV7,VV8,VV9,mkFnV,vargs,slotsL,opdsA,Nat.reduceEqDiff,Nat.reduceLT,Nat.reduceAdd,Nat.reduceBEq,Int.reduceAdd,Int.reduceSub,Int.reduceLT,Int.reduceLE,Int.reduceEq,Int.reduceNeg,↓reduceIte,reduceCtorEq,scL,scD,expand,List.replicate,rowV])|apply gC_drawW|((first|apply gI_dec|apply gG_dec|apply gPG_dec|apply gI_var|apply gG_var|apply gPG_var)<;>intro _))
   all_goals try (exfalso;omega)
   all_goals exact weak_finT3Nil h0 rfl
  ·rw[if_neg hH6] at e
   rw[e] at hloop
   repeat' (first|(simp (disch:=first|omega|assumption|exact bd (by with_unfolding_all rfl)|exact Or.inl rfl|exact Or.inl trivial|exact okL_map _ (fun _=>rfl) _|(simp only[VVlen]<;>omega)|fail) only[VV0,VV1,VV2,VV3,VV4,VV5,VV6,VV7,VV8,VV9,mkFnV,vargs,slotsL,opdsA,Nat.reduceEqDiff,Nat.reduceLT,Nat.reduceAdd,Nat.reduceBEq,Int.reduceAdd,Int.reduceSub,Int.reduceLT,Int.reduceLE,Int.reduceEq,Int.reduceNeg,↓reduceIte,reduceCtorEq,scL,scD,expand,List.replicate,c26l1])|apply gC_drawW|((first|apply gI_dec|apply gG_dec|apply gPG_dec|apply gI_var|apply gG_var|apply gPG_var)<;>intro _))
   all_goals try (exfalso;omega)
   refine scanL hrn hs (by omega) hx hq _ _ _ ?_
   repeat' (first|(simp (disch:=first|omega|assumption|exact bd (by with_unfolding_all rfl)|exact Or.inl rfl|exact Or.inl trivial|exact okL_map _ (fun _=>rfl) _|(simp only[VVlen]<;>omega)|fail) only[VV0,VV1,VV2,VV3,VV4,VV5,VV6,VV7,VV8,VV9,mkFnV,vargs,slotsL,opdsA,Nat.reduceEqDiff,Nat.reduceLT,Nat.reduceAdd,Nat.reduceBEq,Int.reduceAdd,Int.reduceSub,Int.reduceLT,Int.reduceLE,Int.reduceEq,Int.reduceNeg,↓reduceIte,reduceCtorEq,scL,scD,expand,List.replicate,e1])|apply gC_drawW|((first|apply gI_dec|apply gG_dec|apply gPG_dec|apply gI_var|apply gG_var|apply gPG_var)<;>intro _))
   refine callV_fin (by rw[hC];exact hrow) rfl rfl (fun _=>rfl) ?_
   have hRm:(R.map bD).length=R.length:=by rw[List.length_map]
   repeat' (first|(simp (disch:=first|omega|assumption|exact bd (by with_unfolding_all rfl)|exact Or.inl rfl|exact Or.inl trivial|exact okL_map _ (fun _=>rfl) _|(simp only[VVlen]<;>omega)|fail) only[VV0,VV1,VV2,VV3,VV4,VV5,VV6,VV7,VV8,VV9,mkFnV,vargs,slotsL,opdsA,Nat.reduceEqDiff,Nat.reduceLT,Nat.reduceAdd,Nat.reduceBEq,Int.reduceAdd,Int.reduceSub,Int.reduceLT,Int.reduceLE,Int.reduceEq,Int.reduceNeg,↓reduceIte,reduceCtorEq,scL,scD,expand,List.replicate,rowV])|apply gC_drawW|((first|apply gI_dec|apply gG_dec|apply gPG_dec|apply gI_var|apply gG_var|apply gPG_var)<;>intro _))
   all_goals try (exfalso;omega)
   have hpl2:(p++(x++ [10])).length=p.length+x.length+1:=by simp;omega
   refine ⟨_,_,_,?_,weak_to [(3,2),(1,1),(0,0)] 3 h0 rfl rfl rfl rfl,B++R,H+1,p++(x++ [10]),q',rfl,?_,by omega,?_,hloop,?_,?_⟩
   ·rw[hxl,hq0];omega
   ·rw[hs];simp
   ·rw[List.length_append,hB,hRl,Nat.succ_mul]
   ·rw[hpl2];rfl
   ·rw[List.map_append,List.length_append];rfl
end
end Go.Proofs.YtepdkmdcainddaaDoor
namespace Go.Proofs.YtepdkmdcainddaaDoor
open Go Go.Itp
set_option maxRecDepth 100000
set_option maxHeartbeats 2000000
set_option linter.unusedSimpArgs false
set_option linter.unusedVariables false
abbrev baseR (N H:Nat) (B R:List Bool) (r:List UInt8):VHp:=
 [(8,.box 3 1 [.sc (.int .i64 0)]),(7,sBox [32]),(6,sBox r),(5,.box 22 1 [.ref 4 0 N N]),(4,.row 4 1 false false (R.map bD)),(3,.gro 4 1 false (B.map bD)),(2,.box 24 1 [.sc (.int .i64 N),.sc (.int .i64 H),.gr 2 3 B.length]),(1,.box 24 1 [.sc (.int .i64 0),.sc (.int .i64 0),.sc (.slice none 0 0)]),(0,.box 3 1 [.sc (.int .i64 N)])]
section
variable (w:World) (n:Nat)
theorem atoi_any {C:Ctx} {st:VSt} {Q:V→VSt→Prop} (hC:C.E=EN w (n+1)) (l:List UInt8) (hl:l.length≤1000000) (hes:(errO Tryd.prog w "strconv.ErrSyntax").isSome=true) (her:(errO Tryd.prog w "strconv.ErrRange").isSome=true)
  (h1:∀ v,numA l=some v→Q (.tup [.sc (.int .i64 v),.sc .nilIface]) st)
  (h2:numA l=none→∀ (k:Int) (cs:List V),Q (.tup [.sc (.int .i64 k),.ifc 114 (.ptr st.next 0)]) ⟨(st.next,.box 132 1 cs)::st.own,st.next+1,st.ro⟩):CallV C 50 [strV l] st Q:=by
 have hs:(ByteArray.mk l.toArray).size≤281474976710656:=by rw[mk_size];omega
 cases hu:numA l with
 |some v=>exact callV_flat (by rw[hC];exact atoi_s w n _ ⟨l.toArray⟩ v hs (numA_ok hu)) (h1 v hu)
 |none=>
  obtain ⟨k,cs,sp⟩:=atoi_f w n ⟨l.toArray⟩ hs hes her (numA_none hu)
  refine callV_of (by rw[hC];exact sp) rfl rfl rfl ?_
  obtain ⟨H,nx,ro⟩:=st
  have:=h2 hu k (vshL nx (cs.map V.sc))
  simp only[vsh,vshL,shH,shO,fzSL,fzS,frozA_none,Nat.add_zero,Nat.zero_add,List.nil_append,List.cons_append] at this ⊢
  exact this
theorem rd_round {C:Ctx} (hC:C.E=EN w (n+7)) (hes:(errO Tryd.prog w "strconv.ErrSyntax").isSome=true) (her:(errO Tryd.prog w "strconv.ErrRange").isSome=true) (x r:List UInt8) (hx:x.length≤100000) (N H:Nat) (hN:N≤40) (B R:List Bool) (hR:R.length=N) (s:List UInt8) (v42:V) (L k:Nat) (Q2:V→VSt→Prop)
  (hgo:Q2 (.sc (.bool true)) ⟨(9,recO 0)::baseR N H B (setA N R x) r,10,0⟩):
  RoundV C.E c25a0 c25b0 [(0,strV s),(3,.ptr 0 0),(4,.ptr 1 0),(5,.sc (.int .i64 0)),(6,.ptr 2 0),(12,.ptr 5 0),(42,v42),(43,.sc (.int .i64 L)),(44,.sc (.int .i64 k))] [52] 9 [strV x] ⟨(9,recO 0)::baseR N H B R r,10,0⟩ Q2:=by
 have hRm:(R.map bD).length=N:=by rw[List.length_map,hR]
 refine ⟨Nat.zero_le _,rfl,Nat.lt_succ_self 9,_,rfl,fun C4 h4c h4n=>?_⟩
 have hcs:C4.E=EN w (n+6+1):=h4c.trans hC
 repeat' (first|(simp (disch:=first|omega|assumption|exact bd (by with_unfolding_all rfl)|exact Or.inl rfl|exact Or.inl trivial|exact okL_map _ (fun _=>rfl) _|(simp only[VVlen]<;>omega)|fail) only[VV0,VV1,VV2,VV3,VV4,VV5,VV6,VV7,VV8,VV9,mkFnV,vargs,slotsL,opdsA,Nat.reduceEqDiff,Nat.reduceLT,Nat.reduceAdd,Nat.reduceBEq,Int.reduceAdd,Int.reduceSub,Int.reduceLT,Int.reduceLE,Int.reduceEq,Int.reduceNeg,↓reduceIte,reduceCtorEq,scL,scD,expand,List.replicate,c25a0,eqIf_ifc,eqIf_nil,eqIfA_nn])|apply gC_drawW|((first|apply gI_dec|apply gG_dec|apply gPG_dec|apply gI_var|apply gG_var|apply gPG_var)<;>intro _))
 refine ⟨trivial,Nat.zero_le _,trivial,?_⟩
 repeat' (first|(simp (disch:=first|omega|assumption|exact bd (by with_unfolding_all rfl)|exact Or.inl rfl|exact Or.inl trivial|exact okL_map _ (fun _=>rfl) _|(simp only[VVlen]<;>omega)|fail) only[VV0,VV1,VV2,VV3,VV4,VV5,VV6,VV7,VV8,VV9,mkFnV,vargs,slotsL,opdsA,Nat.reduceEqDiff,Nat.reduceLT,Nat.reduceAdd,Nat.reduceBEq,Int.reduceAdd,Int.reduceSub,Int.reduceLT,Int.reduceLE,Int.reduceEq,Int.reduceNeg,↓reduceIte,reduceCtorEq,scL,scD,expand,List.replicate,c25b0,eqIf_ifc,eqIf_nil,eqIfA_nn])|apply gC_drawW|((first|apply gI_dec|apply gG_dec|apply gPG_dec|apply gI_var|apply gG_var|apply gPG_var)<;>intro _))
 have hset:setA N R x=match numA x with|some v=>if 1≤v∧v≤(N:Int) then R.set (v.toNat - 1) true else R|none=>R:=rfl
 refine atoi_any w (n+6) hcs x (by omega) hes her (fun v hv=>?_) (fun hv kv cv=>?_)
 ·rw[hv] at hset
  by_cases hvr:1≤v∧v≤(N:Int)
  ·rw[show (match some v with|some v=>if 1≤v∧v≤(N:Int) then R.set (v.toNat - 1) true else R|none=>R)=R.set (v.toNat - 1) true from if_pos hvr] at hset
   obtain ⟨v1,v2⟩:=hvr
   have hzn:(v - 1).toNat=v.toNat - 1:=by omega
   repeat' (first|(simp (disch:=first|omega|assumption|exact bd (by with_unfolding_all rfl)|exact Or.inl rfl|exact Or.inl trivial|exact okL_map _ (fun _=>rfl) _|(simp only[VVlen]<;>omega)|fail) only[VV0,VV1,VV2,VV3,VV4,VV5,VV6,VV7,VV8,VV9,mkFnV,vargs,slotsL,opdsA,Nat.reduceEqDiff,Nat.reduceLT,Nat.reduceAdd,Nat.reduceBEq,Int.reduceAdd,Int.reduceSub,Int.reduceLT,Int.reduceLE,Int.reduceEq,Int.reduceNeg,↓reduceIte,reduceCtorEq,scL,scD,expand,List.replicate,baseR,eqIf_ifc,eqIf_nil,eqIfA_nn,hzn])|apply gC_drawW|((first|apply gI_dec|apply gG_dec|apply gPG_dec|apply gI_var|apply gG_var|apply gPG_var)<;>intro _))
   all_goals try (exfalso;omega)
   refine ⟨Nat.zero_le _,trivial,_,.refl _ _,?_⟩
   have:=hgo
   rw[hset] at this
   simp only[baseR,List.map_set] at this
   exact this
  ·rw[show (match some v with|some v=>if 1≤v∧v≤(N:Int) then R.set (v.toNat - 1) true else R|none=>R)=R from if_neg hvr] at hset
   repeat' (first|(simp (disch:=first|omega|assumption|exact bd (by with_unfolding_all rfl)|exact Or.inl rfl|exact Or.inl trivial|exact okL_map _ (fun _=>rfl) _|(simp only[VVlen]<;>omega)|fail) only[VV0,VV1,VV2,VV3,VV4,VV5,VV6,VV7,VV8,VV9,mkFnV,vargs,slotsL,opdsA,Nat.reduceEqDiff,Nat.reduceLT,Nat.reduceAdd,Nat.reduceBEq,Int.reduceAdd,Int.reduceSub,Int.reduceLT,Int.reduceLE,Int.reduceEq,Int.reduceNeg,↓reduceIte,reduceCtorEq,scL,scD,expand,List.replicate,baseR,eqIf_ifc,eqIf_nil,eqIfA_nn])|apply gC_drawW|((first|apply gI_dec|apply gG_dec|apply gPG_dec|apply gI_var|apply gG_var|apply gPG_var)<;>intro _))
   all_goals try (exfalso;omega)
   all_goals (refine ⟨Nat.zero_le _,trivial,_,.refl _ _,?_⟩;have:=hgo;rw[hset] at this;exact this)
 ·rw[hv] at hset
  repeat' (first|(simp (disch:=first|omega|assumption|exact bd (by with_unfolding_all rfl)|exact Or.inl rfl|exact Or.inl trivial|exact okL_map _ (fun _=>rfl) _|(simp only[VVlen]<;>omega)|fail) only[VV0,VV1,VV2,VV3,VV4,VV5,VV6,VV7,VV8,VV9,mkFnV,vargs,slotsL,opdsA,Nat.reduceEqDiff,Nat.reduceLT,Nat.reduceAdd,Nat.reduceBEq,Int.reduceAdd,Int.reduceSub,Int.reduceLT,Int.reduceLE,Int.reduceEq,Int.reduceNeg,↓reduceIte,reduceCtorEq,scL,scD,expand,List.replicate,baseR,eqIf_ifc,eqIf_nil,eqIfA_nn])|apply gC_drawW|((first|apply gI_dec|apply gG_dec|apply gPG_dec|apply gI_var|apply gG_var|apply gPG_var)<;>intro _))
  have hh:=hgo
  rw[hset] at hh
  refine ⟨Nat.zero_le _,trivial,_,weak_toB [(9,9),(8,8),(7,7),(6,6),(5,5),(4,4),(3,3),(2,2),(1,1),(0,0)] 10 (by rw[h4n];exact Nat.le_refl _) rfl (by rw[h4n];rfl) rfl rfl,?_⟩
  exact hh
theorem cutSuf_no {c:UInt8} {s:List UInt8} (h:s.getLast? ≠ some c):cutSuf c s=(s,false):=if_neg h
theorem cutSuf_yes {c:UInt8} {s:List UInt8} (h:s.getLast? =some c):cutSuf c s=(s.dropLast,true):=if_pos h
theorem readE_p (s:List UInt8) (z:Int) (hz:z<1∨40<z):VSpec (EN w (n+1)) 25 [strV s,.sc (.int .i64 z)] (.tup [gridV 3 0 0 [],.sc (.int .i64 2)]) ⟨[],0,0⟩:=by
 refine vspec_g rfl rfl (fun _ _=>rfl) (Nat.le_of_ble_eq_true rfl) (oldVals w) retOK_finT3 rfl fun C hC h0=>?_
 repeat' (first|(simp (disch:=first|omega|assumption|exact bd (by with_unfolding_all rfl)|exact Or.inl rfl|exact Or.inl trivial|exact okL_map _ (fun _=>rfl) _|(simp only[VVlen]<;>omega)|fail) only[VV0,VV1,VV2,VV3,VV4,VV5,VV6,VV7,VV8,VV9,mkFnV,vargs,slotsL,opdsA,Nat.reduceEqDiff,Nat.reduceLT,Nat.reduceAdd,Nat.reduceBEq,Int.reduceAdd,Int.reduceSub,Int.reduceLT,Int.reduceLE,Int.reduceEq,Int.reduceNeg,↓reduceIte,reduceCtorEq,scL,scD,expand,List.replicate,c25])|apply gC_drawW|((first|apply gI_dec|apply gG_dec|apply gPG_dec|apply gI_var|apply gG_var|apply gPG_var)<;>intro _))
 all_goals try (exfalso;omega)
 all_goals exact weak_finT3Nil h0 rfl
theorem snap_grid {H:VHp} {o t:Nat} {z:Bool} {a b:Value} {B:List Bool} (h:aget H o=some (.gro t 1 z (B.map bD))):snapL H [.agg [.sc a,.sc b,.gr 2 o B.length]]=some [.agg [.sc a,.sc b,.sl 2 B.length (B.map bD)]]:=by
 have h1:=snap_grD (n:=B.length) h (by rw[List.length_map])
 generalize V.gr 2 o B.length=v at*
 simp[snapV,snapL,h1]
theorem bitsP_snoc (N:Nat) (ls:List (List UInt8)) (k:Nat) (hk:k<ls.length):bitsP N (ls.take (k+1))=bitsP N (ls.take k)++rowP N ls[k]! :=by
 rw[List.take_succ_eq_append_getElem hk,getElem!_pos ls k hk]
 unfold bitsP
 rw[List.map_append,List.flatten_append]
 simp
theorem bitsP_len (N:Nat) (ls:List (List UInt8)):(bitsP N ls).length=ls.length*N:=by
 unfold bitsP
 rw[flat_len _ (fun R hR=>by obtain ⟨x,_,rfl⟩:=List.mem_map.1 hR;exact rowP_len N x),List.length_map]
theorem foldl_take {α β:Type} (f:β→α→β) (b:β) (dn:List α) (x:α):(dn++ [x]).foldl f b=f (dn.foldl f b) x:=by simp
theorem chk_fit (N H:Nat) (L:Nat) (h1:1≤N∧N≤40) (h2:1≤H∧H≤64) (hL:L=N*H):chkE N H L=0:=by
 have e1:¬ ((64:Int)<N∨(64:Int)<H):=by omega
 have e2:¬ ((N:Int)<1∨(H:Int)<1):=by omega
 have e3:(L:Int)=(N:Int)*(H:Int):=by rw[hL];simp
 have e4:¬ (40:Int)<N:=by omega
 simp[chkE,chkG,e1,e2,e3,e4]
theorem read_range {C:Ctx} (hC:C.E=EN w (n+8)) (hes:(errO Tryd.prog w "strconv.ErrSyntax").isSome=true) (her:(errO Tryd.prog w "strconv.ErrRange").isSome=true) (x:List UInt8) (hx:x.length≤100000) (N k L:Nat) (hN:N≤40) (B:List Bool) (s:List UInt8) (v42:V) {K:List KF} {P:VPost}
  (h:∀ (r:List UInt8),gK C K .normal [(0,strV s),(3,.ptr 0 0),(4,.ptr 1 0),(5,.sc (.int .i64 0)),(6,.ptr 2 0),(12,.ptr 5 0),(42,v42),(43,.sc (.int .i64 L)),(44,.sc (.int .i64 k))] ⟨baseR N k B (rowP N x) r,10,0⟩ P):
  gC C (.rangeF (.tmp 51) [52] [0,3,4,5,6,12,42,43,44] c25a0 c25b0) K [(0,strV s),(3,.ptr 0 0),(4,.ptr 1 0),(5,.sc (.int .i64 0)),(6,.ptr 2 0),(12,.ptr 5 0),(42,v42),(43,.sc (.int .i64 L)),(44,.sc (.int .i64 k)),(51,.fn 74 [] [.ptr 7 0,.ptr 6 0,.ptr 8 0])] ⟨baseR N k B (List.replicate N false) x,9,0⟩ P:=by
 refine g_range hC rfl rfl rfl (Nat.le_of_ble_eq_true rfl) rfl (Nat.zero_le _) fun C2 h2n h2r h2p h2o hT=>?_
 refine split_iter (d:=9) (oP:=7) (oS:=6) (oV:=8) (c:=32) (s:=x) w (n+3)
  (fun dn r st=>st=⟨(9,recO 0)::baseR N k B (dn.foldl (setA N) (List.replicate N false)) r,10,0⟩)
  (fun st=>False) h2p h2o h2r (by omega) hT ?_ ?_ ?_ ?_ ?_ _ rfl
 ·rintro dn r st rfl
  exact ⟨rfl,rfl,rfl,Nat.zero_le _⟩
 ·rintro dn r y ws st Q2 hw hwr rfl hgo hstop
  have hym:y ∈ words 32 x:=by rw[hw,hwr];simp
  have hy:=(Go.Itp.words_len (c:=32) x.length (s:=x) (Nat.le_refl _)).2 y hym
  refine rd_round w (n+1) hC hes her y r (by omega) N k hN _ _ (by rw[fold_len];simp) s _ L k Q2 ?_
  refine hgo _ ?_
  rw[foldl_take]
 ·rintro dn r r' st rfl
  rfl
 ·rintro fr st r rfl
  exact ⟨fun i h=>(by cases h),Nat.zero_le _,0,.normal,rfl,rfl,h r⟩
 ·rintro ex fr st hex hf
  exact absurd hf id
theorem read_p (s:List UInt8) (N:Nat) (hl:s.length≤100000) (hN1:1≤N) (hN:N≤40) (hes:(errO Tryd.prog w "strconv.ErrSyntax").isSome=true) (her:(errO Tryd.prog w "strconv.ErrRange").isSome=true):VSpec (EN w (n+9)) 25 [strV s,.sc (.int .i64 N)] (readV N (preadF N s)) ⟨[],0,0⟩:=by
 refine vspec_g rfl rfl (fun _ _=>rfl) (Nat.le_of_ble_eq_true rfl) (oldVals w) (retOK_read _ _) rfl fun C hC h0=>?_
 have hsz:=mk_size s
 have hrn:C.E.rounds=many:=by rw[hC,callP_rounds]
 have hcut:=(cutSuf_p w (n+5) s 10 (by omega)).of hC rfl
 by_cases hg:s.getLast? =some 10
 case neg=>
  have e:preadF N s=none:=by unfold preadF;rw[if_neg (fun h=>hg h.2.1)]
  have hspl:=split_p w (n+2) s 10 (by omega)
  rw[cutSuf_no hg] at hcut
  rw[e]
  repeat' (first|(simp (disch:=first|omega|assumption|exact bd (by with_unfolding_all rfl)|exact Or.inl rfl|exact Or.inl trivial|exact okL_map _ (fun _=>rfl) _|(simp only[VVlen]<;>omega)|fail) only[VV0,VV1,VV2,VV3,VV4,VV5,VV6,VV7,VV8,VV9,mkFnV,vargs,slotsL,opdsA,Nat.reduceEqDiff,Nat.reduceLT,Nat.reduceAdd,Nat.reduceBEq,Int.reduceAdd,Int.reduceSub,Int.reduceLT,Int.reduceLE,Int.reduceEq,Int.reduceNeg,↓reduceIte,reduceCtorEq,scL,scD,expand,List.replicate,c25])|apply gC_drawW|((first|apply gI_dec|apply gG_dec|apply gPG_dec|apply gI_var|apply gG_var|apply gPG_var)<;>intro _))
  all_goals try (exfalso;omega)
  refine callV_flat (hcut _ rfl) ?_
  repeat' (first|(simp (disch:=first|omega|assumption|exact bd (by with_unfolding_all rfl)|exact Or.inl rfl|exact Or.inl trivial|exact okL_map _ (fun _=>rfl) _|(simp only[VVlen]<;>omega)|fail) only[VV0,VV1,VV2,VV3,VV4,VV5,VV6,VV7,VV8,VV9,mkFnV,vargs,slotsL,opdsA,Nat.reduceEqDiff,Nat.reduceLT,Nat.reduceAdd,Nat.reduceBEq,Int.reduceAdd,Int.reduceSub,Int.reduceLT,Int.reduceLE,Int.reduceEq,Int.reduceNeg,↓reduceIte,reduceCtorEq,scL,scD,expand,List.replicate])|apply gC_drawW|((first|apply gI_dec|apply gG_dec|apply gPG_dec|apply gI_var|apply gG_var|apply gPG_var)<;>intro _))
  refine callV_fin (by rw[hC];exact hspl) rfl rfl (fun _=>rfl) ?_
  repeat' (first|(simp (disch:=first|omega|assumption|exact bd (by with_unfolding_all rfl)|exact Or.inl rfl|exact Or.inl trivial|exact okL_map _ (fun _=>rfl) _|(simp only[VVlen]<;>omega)|fail) only[VV0,VV1,VV2,VV3,VV4,VV5,VV6,VV7,VV8,VV9,mkFnV,vargs,slotsL,opdsA,Nat.reduceEqDiff,Nat.reduceLT,Nat.reduceAdd,Nat.reduceBEq,Int.reduceAdd,Int.reduceSub,Int.reduceLT,Int.reduceLE,Int.reduceEq,Int.reduceNeg,↓reduceIte,reduceCtorEq,scL,scD,expand,List.replicate])|apply gC_drawW|((first|apply gI_dec|apply gG_dec|apply gPG_dec|apply gI_var|apply gG_var|apply gPG_var)<;>intro _))
  exact weak_finT3Nil h0 rfl
 rw[cutSuf_yes hg] at hcut
 have hsn:s ≠ []:=fun e=>by rw[e] at hg;cases hg
 have hdl:s.dropLast.length≤100000:=by rw[List.length_dropLast];omega
 have hspl:=split_p w (n+2) s.dropLast 10 (by omega)
 have hwn:=List.length_pos_iff.2 (words_ne 10 s.dropLast)
 have hwl:=Go.Itp.words_len (c:=10) s.dropLast.length (s:=s.dropLast) (Nat.le_refl _)
 have hpf:preadF N s=if (words 10 s.dropLast).length≤64∧planTo (bitsP N (words 10 s.dropLast)) N (words 10 s.dropLast).length=s then some (bitsP N (words 10 s.dropLast),(words 10 s.dropLast).length) else none:=by
  unfold preadF
  by_cases h:(words 10 s.dropLast).length≤64∧planTo (bitsP N (words 10 s.dropLast)) N (words 10 s.dropLast).length=s
  ·rw[if_pos h,if_pos ⟨hsn,hg,h.1,h.2⟩]
  ·rw[if_neg h,if_neg (fun h2=>h ⟨h2.2.2.1,h2.2.2.2⟩)]
 generalize hls:words 10 s.dropLast=ls at*
 by_cases h64:ls.length≤64
 case neg=>
  rw[if_neg (fun h=>h64 h.1)] at hpf
  rw[hpf]
  repeat' (first|(simp (disch:=first|omega|assumption|exact bd (by with_unfolding_all rfl)|exact Or.inl rfl|exact Or.inl trivial|exact okL_map _ (fun _=>rfl) _|(simp only[VVlen]<;>omega)|fail) only[VV0,VV1,VV2,VV3,VV4,VV5,VV6,VV7,VV8,VV9,mkFnV,vargs,slotsL,opdsA,Nat.reduceEqDiff,Nat.reduceLT,Nat.reduceAdd,Nat.reduceBEq,Int.reduceAdd,Int.reduceSub,Int.reduceLT,Int.reduceLE,Int.reduceEq,Int.reduceNeg,↓reduceIte,reduceCtorEq,scL,scD,expand,List.replicate,c25])|apply gC_drawW|((first|apply gI_dec|apply gG_dec|apply gPG_dec|apply gI_var|apply gG_var|apply gPG_var)<;>intro _))
  all_goals try (exfalso;omega)
  refine callV_flat (hcut _ rfl) ?_
  repeat' (first|(simp (disch:=first|omega|assumption|exact bd (by with_unfolding_all rfl)|exact Or.inl rfl|exact Or.inl trivial|exact okL_map _ (fun _=>rfl) _|(simp only[VVlen]<;>omega)|fail) only[VV0,VV1,VV2,VV3,VV4,VV5,VV6,VV7,VV8,VV9,mkFnV,vargs,slotsL,opdsA,Nat.reduceEqDiff,Nat.reduceLT,Nat.reduceAdd,Nat.reduceBEq,Int.reduceAdd,Int.reduceSub,Int.reduceLT,Int.reduceLE,Int.reduceEq,Int.reduceNeg,↓reduceIte,reduceCtorEq,scL,scD,expand,List.replicate])|apply gC_drawW|((first|apply gI_dec|apply gG_dec|apply gPG_dec|apply gI_var|apply gG_var|apply gPG_var)<;>intro _))
  refine callV_fin (by rw[hC];exact hspl) rfl rfl (fun _=>rfl) ?_
  repeat' (first|(simp (disch:=first|omega|assumption|exact bd (by with_unfolding_all rfl)|exact Or.inl rfl|exact Or.inl trivial|exact okL_map _ (fun _=>rfl) _|(simp only[VVlen]<;>omega)|fail) only[VV0,VV1,VV2,VV3,VV4,VV5,VV6,VV7,VV8,VV9,mkFnV,vargs,slotsL,opdsA,Nat.reduceEqDiff,Nat.reduceLT,Nat.reduceAdd,Nat.reduceBEq,Int.reduceAdd,Int.reduceSub,Int.reduceLT,Int.reduceLE,Int.reduceEq,Int.reduceNeg,↓reduceIte,reduceCtorEq,scL,scD,expand,List.replicate])|apply gC_drawW|((first|apply gI_dec|apply gG_dec|apply gPG_dec|apply gI_var|apply gG_var|apply gPG_var)<;>intro _))
  exact weak_finT3Nil h0 rfl
 have hlm:(ls.map sD).length=ls.length:=by rw[List.length_map]
 repeat' (first|(simp (disch:=first|omega|assumption|exact bd (by with_unfolding_all rfl)|exact Or.inl rfl|exact Or.inl trivial|exact okL_map _ (fun _=>rfl) _|(simp only[VVlen]<;>omega)|fail) only[VV0,VV1,VV2,VV3,VV4,VV5,VV6,VV7,VV8,VV9,mkFnV,vargs,slotsL,opdsA,Nat.reduceEqDiff,Nat.reduceLT,Nat.reduceAdd,Nat.reduceBEq,Int.reduceAdd,Int.reduceSub,Int.reduceLT,Int.reduceLE,Int.reduceEq,Int.reduceNeg,↓reduceIte,reduceCtorEq,scL,scD,expand,List.replicate,c25])|apply gC_drawW|((first|apply gI_dec|apply gG_dec|apply gPG_dec|apply gI_var|apply gG_var|apply gPG_var)<;>intro _))
 all_goals try (exfalso;omega)
 refine callV_flat (hcut _ rfl) ?_
 repeat' (first|(simp (disch:=first|omega|assumption|exact bd (by with_unfolding_all rfl)|exact Or.inl rfl|exact Or.inl trivial|exact okL_map _ (fun _=>rfl) _|(simp only[VVlen]<;>omega)|fail) only[VV0,VV1,VV2,VV3,VV4,VV5,VV6,VV7,VV8,VV9,mkFnV,vargs,slotsL,opdsA,Nat.reduceEqDiff,Nat.reduceLT,Nat.reduceAdd,Nat.reduceBEq,Int.reduceAdd,Int.reduceSub,Int.reduceLT,Int.reduceLE,Int.reduceEq,Int.reduceNeg,↓reduceIte,reduceCtorEq,scL,scD,expand,List.replicate])|apply gC_drawW|((first|apply gI_dec|apply gG_dec|apply gPG_dec|apply gI_var|apply gG_var|apply gPG_var)<;>intro _))
 refine callV_fin (by rw[hC];exact hspl) rfl rfl (fun _=>rfl) ?_
 repeat' (first|(simp (disch:=first|omega|assumption|exact bd (by with_unfolding_all rfl)|exact Or.inl rfl|exact Or.inl trivial|exact okL_map _ (fun _=>rfl) _|(simp only[VVlen]<;>omega)|fail) only[VV0,VV1,VV2,VV3,VV4,VV5,VV6,VV7,VV8,VV9,mkFnV,vargs,slotsL,opdsA,Nat.reduceEqDiff,Nat.reduceLT,Nat.reduceAdd,Nat.reduceBEq,Int.reduceAdd,Int.reduceSub,Int.reduceLT,Int.reduceLE,Int.reduceEq,Int.reduceNeg,↓reduceIte,reduceCtorEq,scL,scD,expand,List.replicate])|apply gC_drawW|((first|apply gI_dec|apply gG_dec|apply gPG_dec|apply gI_var|apply gG_var|apply gPG_var)<;>intro _))
 all_goals try (exfalso;omega)
 refine g_while (fun m fr st=>∃ k:Nat,m=ls.length - k∧k≤ls.length∧fr= [(0,strV s),(3,.ptr 0 0),(4,.ptr 1 0),(5,.sc (.int .i64 0)),(6,.ptr 2 0),(42,.sl 3 ls.length (ls.map sD)),(43,.sc (.int .i64 ls.length)),(44,.sc (.int .i64 k))]∧
   st=⟨[(3,.gro 4 1 false ((bitsP N (ls.take k)).map bD)),(2,.box 24 1 [.sc (.int .i64 N),.sc (.int .i64 k),.gr 2 3 (bitsP N (ls.take k)).length]),(1,.box 24 1 [.sc (.int .i64 0),.sc (.int .i64 0),.sc (.slice none 0 0)]),(0,.box 3 1 [.sc (.int .i64 N)])],4,0⟩) ls.length ?_
   ⟨_,_,weak_nilCell (l:= [.sc (.int .i64 N),.sc (.int .i64 0),.sc (.slice none 0 0)]) 2 24 1 2 4 1 rfl rfl (fun h=>absurd (show (2:Nat)=3 from h) (by decide)),0,rfl,Nat.zero_le _,rfl,rfl⟩ ?_
 ·rw[hrn];unfold many;omega
 rintro m fr st ⟨k,rfl,hk,rfl,rfl⟩
 by_cases hlt:k<ls.length
 case neg=>
  have:k=ls.length:=by omega
  subst this
  rw[List.take_length]
  have hBl:=bitsP_len N ls
  have hfit:=chk_fit N ls.length (bitsP N ls).length ⟨hN1,hN⟩ ⟨hwn,h64⟩ (by rw[hBl,Nat.mul_comm])
  have hplan:∀ (st:VSt) (xs:List V),snapL st.own xs=some [gridV 2 N ls.length (bitsP N ls)]→VSpecO C.E 11 st xs (.tup [strV (planTo (bitsP N ls) N ls.length),.sc (.int .i64 0)]):=fun st xs h=>by
   rw[hC]
   exact (plan_p w (n+3) 2 N ls.length (bitsP N ls) hfit ⟨hN1,hN⟩ ⟨hwn,h64⟩ (by rw[hBl,Nat.mul_comm])).flat rfl h
  generalize hB:bitsP N ls=B at*
  have hBm:(B.map bD).length=B.length:=by rw[List.length_map]
  have hsn2:=fun (H:VHp) (h:aget H 3=some (.gro 4 1 false (B.map bD)))=>snap_grid (a:= .int .i64 N) (b:= .int .i64 ls.length) h
  generalize planTo B N ls.length=T at*
  by_cases hT:T=s
  ·rw[if_pos ⟨h64,hT⟩] at hpf
   rw[hpf]
   repeat' (first|(simp (disch:=first|omega|assumption|exact bd (by with_unfolding_all rfl)|exact Or.inl rfl|exact Or.inl trivial|exact okL_map _ (fun _=>rfl) _|(simp only[VVlen]<;>omega)|fail) only[VV0,VV1,VV2,VV3,VV4,VV5,VV6,VV7,VV8,VV9,mkFnV,vargs,slotsL,opdsA,Nat.reduceEqDiff,Nat.reduceLT,Nat.reduceAdd,Nat.reduceBEq,Int.reduceAdd,Int.reduceSub,Int.reduceLT,Int.reduceLE,Int.reduceEq,Int.reduceNeg,↓reduceIte,reduceCtorEq,scL,scD,expand,List.replicate,c25l0])|apply gC_drawW|((first|apply gI_dec|apply gG_dec|apply gPG_dec|apply gI_var|apply gG_var|apply gPG_var)<;>intro _))
   all_goals try (exfalso;omega)
   refine callV_flat (hplan _ _ (hsn2 _ rfl)) ?_
   repeat' (first|(simp (disch:=first|omega|assumption|exact bd (by with_unfolding_all rfl)|exact Or.inl rfl|exact Or.inl trivial|exact okL_map _ (fun _=>rfl) _|(simp only[VVlen]<;>omega)|fail) only[VV0,VV1,VV2,VV3,VV4,VV5,VV6,VV7,VV8,VV9,mkFnV,vargs,slotsL,opdsA,Nat.reduceEqDiff,Nat.reduceLT,Nat.reduceAdd,Nat.reduceBEq,Int.reduceAdd,Int.reduceSub,Int.reduceLT,Int.reduceLE,Int.reduceEq,Int.reduceNeg,↓reduceIte,reduceCtorEq,scL,scD,expand,List.replicate,mk_inj,hT])|apply gC_drawW|((first|apply gI_dec|apply gG_dec|apply gPG_dec|apply gI_var|apply gG_var|apply gPG_var)<;>intro _))
   all_goals try (exfalso;omega)
   exact weak_finT3 (s:=2) (snap_grD rfl hBm) rfl (.inl (by decide)) h0 rfl
  ·rw[if_neg (fun h=>hT h.2)] at hpf
   rw[hpf]
   repeat' (first|(simp (disch:=first|omega|assumption|exact bd (by with_unfolding_all rfl)|exact Or.inl rfl|exact Or.inl trivial|exact okL_map _ (fun _=>rfl) _|(simp only[VVlen]<;>omega)|fail) only[VV0,VV1,VV2,VV3,VV4,VV5,VV6,VV7,VV8,VV9,mkFnV,vargs,slotsL,opdsA,Nat.reduceEqDiff,Nat.reduceLT,Nat.reduceAdd,Nat.reduceBEq,Int.reduceAdd,Int.reduceSub,Int.reduceLT,Int.reduceLE,Int.reduceEq,Int.reduceNeg,↓reduceIte,reduceCtorEq,scL,scD,expand,List.replicate,c25l0])|apply gC_drawW|((first|apply gI_dec|apply gG_dec|apply gPG_dec|apply gI_var|apply gG_var|apply gPG_var)<;>intro _))
   all_goals try (exfalso;omega)
   refine callV_flat (hplan _ _ (hsn2 _ rfl)) ?_
   repeat' (first|(simp (disch:=first|omega|assumption|exact bd (by with_unfolding_all rfl)|exact Or.inl rfl|exact Or.inl trivial|exact okL_map _ (fun _=>rfl) _|(simp only[VVlen]<;>omega)|fail) only[VV0,VV1,VV2,VV3,VV4,VV5,VV6,VV7,VV8,VV9,mkFnV,vargs,slotsL,opdsA,Nat.reduceEqDiff,Nat.reduceLT,Nat.reduceAdd,Nat.reduceBEq,Int.reduceAdd,Int.reduceSub,Int.reduceLT,Int.reduceLE,Int.reduceEq,Int.reduceNeg,↓reduceIte,reduceCtorEq,scL,scD,expand,List.replicate,mk_inj,hT])|apply gC_drawW|((first|apply gI_dec|apply gG_dec|apply gPG_dec|apply gI_var|apply gG_var|apply gPG_var)<;>intro _))
   all_goals try (exfalso;omega)
   exact weak_finT3Nil h0 rfl
 have hBs:=bitsP_snoc N ls k hlt
 have hBl:=bitsP_len N (ls.take k)
 rw[List.length_take,Nat.min_eq_left hk] at hBl
 have hBl2:(bitsP N (ls.take k)).length≤64*40:=by rw[hBl];exact Nat.mul_le_mul (by omega) hN
 have hrp:=rowP_len N ls[k]!
 have hx:=hwl.2 ls[k]! (by rw[getElem!_pos ls k hlt];exact List.getElem_mem hlt)
 have hfold:rowP N ls[k]! =(words 32 ls[k]!).foldl (setA N) (List.replicate N false):=rfl
 have hr0:List.replicate N (D.sc (Value.bool false))=(List.replicate N false).map bD:=by simp[bD]
 have hspq:=splitSeq_p w (n+6) ls[k]! 32
 generalize hx0:ls[k]! =x at*
 repeat' (first|(simp (disch:=first|omega|assumption|exact bd (by with_unfolding_all rfl)|exact Or.inl rfl|exact Or.inl trivial|exact okL_map _ (fun _=>rfl) _|(simp only[VVlen]<;>omega)|fail) only[VV0,VV1,VV2,VV3,VV4,VV5,VV6,VV7,VV8,VV9,mkFnV,vargs,slotsL,opdsA,Nat.reduceEqDiff,Nat.reduceLT,Nat.reduceAdd,Nat.reduceBEq,Int.reduceAdd,Int.reduceSub,Int.reduceLT,Int.reduceLE,Int.reduceEq,Int.reduceNeg,↓reduceIte,reduceCtorEq,scL,scD,expand,List.replicate,c25l0,sD_dv,hx0])|apply gC_drawW|((first|apply gI_dec|apply gG_dec|apply gPG_dec|apply gI_var|apply gG_var|apply gPG_var)<;>intro _))
 all_goals try (exfalso;omega)
 refine callV_of (by rw[hC];exact hspq) rfl rfl rfl ?_
 repeat' (first|(simp (disch:=first|omega|assumption|exact bd (by with_unfolding_all rfl)|exact Or.inl rfl|exact Or.inl trivial|exact okL_map _ (fun _=>rfl) _|(simp only[VVlen]<;>omega)|fail) only[VV0,VV1,VV2,VV3,VV4,VV5,VV6,VV7,VV8,VV9,mkFnV,vargs,slotsL,opdsA,Nat.reduceEqDiff,Nat.reduceLT,Nat.reduceAdd,Nat.reduceBEq,Int.reduceAdd,Int.reduceSub,Int.reduceLT,Int.reduceLE,Int.reduceEq,Int.reduceNeg,↓reduceIte,reduceCtorEq,scL,scD,expand,List.replicate,vsh,vshL,shH,shO,fzSL,fzS])|apply gC_drawW|((first|apply gI_dec|apply gG_dec|apply gPG_dec|apply gI_var|apply gG_var|apply gPG_var)<;>intro _))
 rw[hr0]
 refine read_range w n hC hes her x (by omega) N k ls.length hN _ s _ fun r=>?_
 generalize rowP N x=R at*
 have hRm:(R.map bD).length=N:=by rw[List.length_map,hrp]
 have hbt:((bitsP N (ls.take k)).map bD).length=(bitsP N (ls.take k)).length:=by rw[List.length_map]
 repeat' (first|(simp (disch:=first|omega|assumption|exact bd (by with_unfolding_all rfl)|exact Or.inl rfl|exact Or.inl trivial|exact okL_map _ (fun _=>rfl) _|(simp only[VVlen]<;>omega)|fail) only[VV0,VV1,VV2,VV3,VV4,VV5,VV6,VV7,VV8,VV9,mkFnV,vargs,slotsL,opdsA,Nat.reduceEqDiff,Nat.reduceLT,Nat.reduceAdd,Nat.reduceBEq,Int.reduceAdd,Int.reduceSub,Int.reduceLT,Int.reduceLE,Int.reduceEq,Int.reduceNeg,↓reduceIte,reduceCtorEq,scL,scD,expand,List.replicate,baseR])|apply gC_drawW|((first|apply gI_dec|apply gG_dec|apply gPG_dec|apply gI_var|apply gG_var|apply gPG_var)<;>intro _))
 refine ⟨_,_,_,by omega,weak_to [(10,3),(2,2),(1,1),(0,0)] 4 h0 rfl rfl rfl rfl,k+1,rfl,hlt,rfl,?_⟩
 rw[hBs,List.map_append,List.length_append,hrp]
 rfl
end
end Go.Proofs.YtepdkmdcainddaaDoor
namespace Go.Proofs.YtepdkmdcainddaaDoor
open Go Go.Itp
set_option maxRecDepth 100000
set_option maxHeartbeats 1000000
set_option linter.unusedSimpArgs false
def validS (q:Int) (L:List (List Bool)):Bool:=decide (1≤q∧q≤40∧2≤L.length∧L.length≤65∧∀ k,k<L.length→(L[k]!.length:Int)=q+1)
theorem lt_succ_cases {P:Nat→Prop} {k:Nat} (h:∀ j,j<k→P j) (hk:P k):∀ j,j<k+1→P j:=fun j hj=>by
 rcases Nat.lt_or_eq_of_le (Nat.le_of_lt_succ hj) with h1|h1
 ·exact h j h1
 ·subst h1;exact hk
section
variable (w:World) (n:Nat)
theorem chain_p (s s':Nat) (q:Int) (L:List (List Bool)):
  VSpec (EN w (n+1)) 21 [chainV s s' q L] (.sc (.int .i64 (if validS q L then 0 else 8))) ⟨[],0,0⟩:=by
 refine vspec_flat rfl rfl (fun _ _=>rfl) (Nat.le_of_ble_eq_true rfl) (oldVals w) rfl fun C hC h0=>?_
 by_cases h1:1≤q∧q≤40∧2≤L.length∧L.length≤65
 case neg=>
  rw[if_neg (by simp only[validS,decide_eq_true_eq];exact fun h=>h1 ⟨h.1,h.2.1,h.2.2.1,h.2.2.2.1⟩)]
  repeat' (first|(simp (disch:=first|omega|assumption|exact bd (by with_unfolding_all rfl)|exact Or.inl rfl|exact Or.inl trivial|exact okL_map _ (fun _=>rfl) _|(simp only[VVlen]<;>omega)|fail) only[VV0,VV1,VV2,VV3,VV4,VV5,VV6,VV7,VV8,VV9,mkFnV,vargs,slotsL,opdsA,Nat.reduceEqDiff,Nat.reduceLT,Nat.reduceAdd,Nat.reduceBEq,Int.reduceAdd,Int.reduceSub,Int.reduceLT,Int.reduceLE,Int.reduceEq,Int.reduceNeg,↓reduceIte,reduceCtorEq,scL,scD,expand,List.replicate,c21])|apply gC_drawW|((first|apply gI_dec|apply gG_dec|apply gPG_dec|apply gI_var|apply gG_var|apply gPG_var)<;>intro _))
  all_goals first|exact weak_flat rfl h0 rfl|(exfalso;omega)
 repeat' (first|(simp (disch:=first|omega|assumption|exact bd (by with_unfolding_all rfl)|exact Or.inl rfl|exact Or.inl trivial|exact okL_map _ (fun _=>rfl) _|(simp only[VVlen]<;>omega)|fail) only[VV0,VV1,VV2,VV3,VV4,VV5,VV6,VV7,VV8,VV9,mkFnV,vargs,slotsL,opdsA,Nat.reduceEqDiff,Nat.reduceLT,Nat.reduceAdd,Nat.reduceBEq,Int.reduceAdd,Int.reduceSub,Int.reduceLT,Int.reduceLE,Int.reduceEq,Int.reduceNeg,↓reduceIte,reduceCtorEq,scL,scD,expand,List.replicate,c21])|apply gC_drawW|((first|apply gI_dec|apply gG_dec|apply gPG_dec|apply gI_var|apply gG_var|apply gPG_var)<;>intro _))
 refine g_while (fun m fr st=>∃ k:Nat,m=L.length - k∧k≤L.length∧fr= [(1,.ptr 0 0),(3,.sc (.int .i64 k))]∧st=⟨[(0,.box 34 1 [.sc (.int .i64 q),.sl s L.length (L.map (rowD s'))])],1,0⟩∧∀ j,j<k→(L[j]!.length:Int)=q+1) L.length ?_ ⟨_,_,.refl _ _,0,?_⟩ ?_
 ·rw[hC,callP_rounds];unfold many;omega
 ·exact ⟨by omega,by omega,rfl,rfl,by omega⟩
 ·rintro m fr st ⟨k,rfl,hk,rfl,rfl,hj⟩
  by_cases hlt:k<L.length
  ·by_cases hw:(L[k]!.length:Int)=q+1
   ·repeat' (first|(simp (disch:=first|omega|assumption|exact bd (by with_unfolding_all rfl)|exact Or.inl rfl|exact Or.inl trivial|exact okL_map _ (fun _=>rfl) _|(simp only[VVlen]<;>omega)|fail) only[VV0,VV1,VV2,VV3,VV4,VV5,VV6,VV7,VV8,VV9,mkFnV,vargs,slotsL,opdsA,Nat.reduceEqDiff,Nat.reduceLT,Nat.reduceAdd,Nat.reduceBEq,Int.reduceAdd,Int.reduceSub,Int.reduceLT,Int.reduceLE,Int.reduceEq,Int.reduceNeg,↓reduceIte,reduceCtorEq,scL,scD,expand,List.replicate,c21l0,rowD_dv])|apply gC_drawW|((first|apply gI_dec|apply gG_dec|apply gPG_dec|apply gI_var|apply gG_var|apply gPG_var)<;>intro _))
    exact ⟨_,_,_,by omega,.refl _ _,k+1,rfl,hlt,rfl,rfl,lt_succ_cases hj hw⟩
   ·rw[if_neg (by simp only[validS,decide_eq_true_eq];exact fun h=>hw (h.2.2.2.2 k hlt))]
    repeat' (first|(simp (disch:=first|omega|assumption|exact bd (by with_unfolding_all rfl)|exact Or.inl rfl|exact Or.inl trivial|exact okL_map _ (fun _=>rfl) _|(simp only[VVlen]<;>omega)|fail) only[VV0,VV1,VV2,VV3,VV4,VV5,VV6,VV7,VV8,VV9,mkFnV,vargs,slotsL,opdsA,Nat.reduceEqDiff,Nat.reduceLT,Nat.reduceAdd,Nat.reduceBEq,Int.reduceAdd,Int.reduceSub,Int.reduceLT,Int.reduceLE,Int.reduceEq,Int.reduceNeg,↓reduceIte,reduceCtorEq,scL,scD,expand,List.replicate,c21l0,rowD_dv])|apply gC_drawW|((first|apply gI_dec|apply gG_dec|apply gPG_dec|apply gI_var|apply gG_var|apply gPG_var)<;>intro _))
    exact weak_flat rfl h0 rfl
  ·have:k=L.length:=by omega
   subst this
   rw[if_pos (by simp only[validS,decide_eq_true_eq];exact ⟨h1.1,h1.2.1,h1.2.2.1,h1.2.2.2,hj⟩)]
   repeat' (first|(simp (disch:=first|omega|assumption|exact bd (by with_unfolding_all rfl)|exact Or.inl rfl|exact Or.inl trivial|exact okL_map _ (fun _=>rfl) _|(simp only[VVlen]<;>omega)|fail) only[VV0,VV1,VV2,VV3,VV4,VV5,VV6,VV7,VV8,VV9,mkFnV,vargs,slotsL,opdsA,Nat.reduceEqDiff,Nat.reduceLT,Nat.reduceAdd,Nat.reduceBEq,Int.reduceAdd,Int.reduceSub,Int.reduceLT,Int.reduceLE,Int.reduceEq,Int.reduceNeg,↓reduceIte,reduceCtorEq,scL,scD,expand,List.replicate,c21l0,rowD_dv])|apply gC_drawW|((first|apply gI_dec|apply gG_dec|apply gPG_dec|apply gI_var|apply gG_var|apply gPG_var)<;>intro _))
   exact weak_flat rfl h0 rfl
end
end Go.Proofs.YtepdkmdcainddaaDoor
namespace Go.Proofs.YtepdkmdcainddaaDoor
open Go Go.Itp
set_option maxRecDepth 100000
set_option maxHeartbeats 1000000
set_option linter.unusedSimpArgs false
set_option linter.unusedVariables false
theorem decode_small {s:ByteArray} {i:Nat} (h:(s.get! i).toNat<128):Utf8.decode s i=((s.get! i).toNat,1):=by
 unfold Utf8.decode
 simp only[Nat.add_zero]
 rw[if_pos h]
theorem decode_big {s:ByteArray} {i:Nat} (h:¬ (s.get! i).toNat<128):128≤(Utf8.decode s i).1:=by
 unfold Utf8.decode
 simp only[Nat.add_zero]
 rw[if_neg h]
 simp only[Bool.and_eq_true,decide_eq_true_eq]
 repeat' split
 all_goals simp only[Utf8.runeError]
 all_goals first|omega|(rename_i h1;have h2:=h1.1;omega)
theorem get_l (l:List UInt8) (i:Nat) (h:i<l.length):(ByteArray.mk l.toArray).get! i=l[i]! :=by
 have h1:(ByteArray.mk l.toArray).size=l.length:=by simp[ByteArray.size]
 show l.toArray[i]! =l[i]!
 simp
def parseP:List UInt8→List (List Bool)→List Bool→Option (List (List Bool) × List Bool)
 | [],cs,c=>some (cs,c)
 |b::r,cs,c=>if b=111∨b=46 then parseP r cs (c++ [decide (b=111)]) else if b=10 then parseP r (cs++ [c]) [] else none
def lastL (cs:List (List Bool)):Int:=match cs.getLast? with|some c=>(c.length:Int) - 1|none=>0
def parse18 (s:List UInt8):Option (Int × List (List Bool)):=match parseP s [] [] with
 |none=>none
 |some p=>if p.2= []∧validS (lastL p.1) p.1=true then some (lastL p.1,p.1) else none
def chainR:Option (Int × List (List Bool))→V
 |some p=> .tup [.agg [.sc (.int .i64 p.1),.sl 3 p.2.length (p.2.map (rowD 2))],.sc (.int .i64 0)]
 |none=> .tup [.agg [.sc (.int .i64 0),.sl 3 0 []],.sc (.int .i64 12)]
theorem retOK_chain (r:Option (Int × List (List Bool))):RetOK [] (chainR r):=by
 cases r<;>exact retOK_finA2
theorem valid_head {q:Int} {cs:List (List Bool)} (h:validS q cs=true):q=(cs[0]!.length:Int) - 1∧q=lastL cs:=by
 simp only[validS,decide_eq_true_eq] at h
 obtain ⟨_,_,h3,_,h5⟩:=h
 refine ⟨by have:=h5 0 (by omega);omega,?_⟩
 have h6:=h5 (cs.length - 1) (by omega)
 unfold lastL
 rw[List.getLast?_eq_getElem?,List.getElem?_eq_getElem (by omega)]
 rw[getElem!_pos cs _ (by omega)] at h6
 simp only
 omega
theorem valid_first (cs:List (List Bool)):validS ((cs[0]!.length:Int) - 1) cs=validS (lastL cs) cs:=by
 cases h1:validS ((cs[0]!.length:Int) - 1) cs with
 |true=>rw[← (valid_head h1).2,h1]
 |false=>
  cases h2:validS (lastL cs) cs with
  |true=>rw[← (valid_head h2).1,h2] at h1;cases h1
  |false=>rfl
def fIdx (F:Nat→Bool):Nat→Nat→Int
 |_,0=> -1
 |k,m+1=>if F k=true then k else fIdx F (k+1) m
theorem fIdx_neg (F:Nat→Bool):∀ m k,(0≤fIdx F k m)↔∃ j,k≤j∧j<k+m∧F j=true
 |0,k=>by simp only[fIdx];constructor;omega;rintro ⟨j,h1,h2,_⟩;omega
 |m+1,k=>by
  rw[fIdx]
  by_cases h:F k=true
  ·rw[if_pos h];exact ⟨fun _=>⟨k,by omega,by omega,h⟩,fun _=>by omega⟩
  ·rw[if_neg h,fIdx_neg F m (k+1)]
   constructor
   ·rintro ⟨j,h1,h2,h3⟩;exact ⟨j,by omega,by omega,h3⟩
   ·rintro ⟨j,h1,h2,h3⟩
    have:j ≠ k:=fun e=>h (e▸h3)
    exact ⟨j,by omega,by omega,h3⟩
section
variable (w:World) (n:Nat)
theorem validC_p (st:VSt) (o t e:Nat) (q:Int) (v:V) (s:Nat) (l:List Bool) (h1:aget st.own o=some (.box t e [.sc (.int .i64 q),v])) (hq: -10000000≤q∧q≤10000000) (hl:l.length≤10000000):
  VSpecO (EN w (n+1)) 66 st [.sl s l.length (l.map bD),.ptr o 0] (.sc (.bool (decide (¬ (l.length:Int)=q+1)))):=by
 refine vspecO_g rfl rfl (fun _ _=>rfl) (Nat.le_of_ble_eq_true rfl) rfl fun C hC h0=>⟨⟨st.own,st.next,st.next⟩,?_⟩
 repeat' (first|(simp (disch:=first|omega|assumption|exact bd (by with_unfolding_all rfl)|exact Or.inl rfl|exact Or.inl trivial|exact okL_map _ (fun _=>rfl) _|(simp only[VVlen]<;>omega)|fail) only[VV0,VV1,VV2,VV3,VV4,VV5,VV6,VV7,VV8,VV9,mkFnV,vargs,slotsL,opdsA,Nat.reduceEqDiff,Nat.reduceLT,Nat.reduceAdd,Nat.reduceBEq,Int.reduceAdd,Int.reduceSub,Int.reduceLT,Int.reduceLE,Int.reduceEq,Int.reduceNeg,↓reduceIte,reduceCtorEq,scL,scD,expand,List.replicate,c66,h1])|apply gC_drawW|((first|apply gI_dec|apply gG_dec|apply gPG_dec|apply gI_var|apply gG_var|apply gPG_var)<;>intro _))
 all_goals exact .refl _ _
theorem indexF_p (st:VSt) (s s':Nat) (L:List (List Bool)) (hL:L.length≤10000000) (f:FuncId) (caps:List V) (F:Nat→Bool) (h:∀ i:Nat,i<L.length→VSpecO (EN w n) f st (dv (rowD s' L[i]!)::caps) (.sc (.bool (F i)))):
  VSpecO (EN w (n+1)) 81 st [.sl s L.length (L.map (rowD s')),.fn f [] caps] (.sc (.int .i64 (fIdx F 0 L.length))):=by
 refine vspecO_g rfl rfl (fun _ _=>rfl) (Nat.le_of_ble_eq_true rfl) rfl fun C hC h0=>⟨⟨st.own,st.next,st.next⟩,?_⟩
 simp (disch:=first|omega|assumption|exact bd (by with_unfolding_all rfl)|exact Or.inl rfl|exact Or.inl trivial|exact okL_map _ (fun _=>rfl) _|(simp only[VVlen]<;>omega)|fail) only[VV0,VV1,VV2,VV3,VV4,VV5,VV6,VV7,VV8,VV9,mkFnV,vargs,slotsL,opdsA,Nat.reduceEqDiff,Nat.reduceLT,Nat.reduceAdd,Nat.reduceBEq,Int.reduceAdd,Int.reduceSub,Int.reduceLT,Int.reduceLE,Int.reduceEq,Int.reduceNeg,↓reduceIte,reduceCtorEq,scL,scD,expand,List.replicate,c81]
 refine g_while (fun m fr t=>∃ k:Nat,m=L.length - k∧k≤L.length∧fIdx F 0 L.length=fIdx F k (L.length - k)∧fr= [(0,.sl s L.length (L.map (rowD s'))),(1,.fn f [] caps),(7,.sc (.int .i64 L.length)),(8,.sc (.int .i64 k))]∧t=⟨st.own,st.next,st.next⟩) L.length ?_ ⟨_,_,.refl _ _,0,?_⟩ ?_
 ·rw[hC,callP_rounds];unfold many;omega
 ·exact ⟨by omega,by omega,rfl,rfl,rfl⟩
 ·rintro m fr t ⟨k,rfl,hk,hf,rfl,rfl⟩
  by_cases hlt:k<L.length
  ·rw[show L.length - k=(L.length - (k+1))+1 by omega,fIdx] at hf
   have hh:=h k hlt
   have hlm:(L.map (rowD s')).length=L.length:=by rw[List.length_map]
   by_cases hb:F k=true
   ·rw[if_pos hb] at hf
    rw[hb] at hh
    rw[hf]
    repeat' (first|(simp (disch:=first|omega|assumption|exact bd (by with_unfolding_all rfl)|exact Or.inl rfl|exact Or.inl trivial|exact okL_map _ (fun _=>rfl) _|(simp only[VVlen]<;>omega)|fail) only[VV0,VV1,VV2,VV3,VV4,VV5,VV6,VV7,VV8,VV9,mkFnV,vargs,slotsL,opdsA,Nat.reduceEqDiff,Nat.reduceLT,Nat.reduceAdd,Nat.reduceBEq,Int.reduceAdd,Int.reduceSub,Int.reduceLT,Int.reduceLE,Int.reduceEq,Int.reduceNeg,↓reduceIte,reduceCtorEq,scL,scD,expand,List.replicate,c81l0])|apply gC_drawW|((first|apply gI_dec|apply gG_dec|apply gPG_dec|apply gI_var|apply gG_var|apply gPG_var)<;>intro _))
    refine callV_flat (v:= .sc (.bool true)) (by rw[hC];exact hh) ?_
    repeat' (first|(simp (disch:=first|omega|assumption|exact bd (by with_unfolding_all rfl)|exact Or.inl rfl|exact Or.inl trivial|exact okL_map _ (fun _=>rfl) _|(simp only[VVlen]<;>omega)|fail) only[VV0,VV1,VV2,VV3,VV4,VV5,VV6,VV7,VV8,VV9,mkFnV,vargs,slotsL,opdsA,Nat.reduceEqDiff,Nat.reduceLT,Nat.reduceAdd,Nat.reduceBEq,Int.reduceAdd,Int.reduceSub,Int.reduceLT,Int.reduceLE,Int.reduceEq,Int.reduceNeg,↓reduceIte,reduceCtorEq,scL,scD,expand,List.replicate])|apply gC_drawW|((first|apply gI_dec|apply gG_dec|apply gPG_dec|apply gI_var|apply gG_var|apply gPG_var)<;>intro _))
    exact .refl _ _
   ·rw[if_neg hb] at hf
    rw[Bool.eq_false_iff.2 hb] at hh
    repeat' (first|(simp (disch:=first|omega|assumption|exact bd (by with_unfolding_all rfl)|exact Or.inl rfl|exact Or.inl trivial|exact okL_map _ (fun _=>rfl) _|(simp only[VVlen]<;>omega)|fail) only[VV0,VV1,VV2,VV3,VV4,VV5,VV6,VV7,VV8,VV9,mkFnV,vargs,slotsL,opdsA,Nat.reduceEqDiff,Nat.reduceLT,Nat.reduceAdd,Nat.reduceBEq,Int.reduceAdd,Int.reduceSub,Int.reduceLT,Int.reduceLE,Int.reduceEq,Int.reduceNeg,↓reduceIte,reduceCtorEq,scL,scD,expand,List.replicate,c81l0])|apply gC_drawW|((first|apply gI_dec|apply gG_dec|apply gPG_dec|apply gI_var|apply gG_var|apply gPG_var)<;>intro _))
    refine callV_flat (v:= .sc (.bool false)) (by rw[hC];exact hh) ?_
    repeat' (first|(simp (disch:=first|omega|assumption|exact bd (by with_unfolding_all rfl)|exact Or.inl rfl|exact Or.inl trivial|exact okL_map _ (fun _=>rfl) _|(simp only[VVlen]<;>omega)|fail) only[VV0,VV1,VV2,VV3,VV4,VV5,VV6,VV7,VV8,VV9,mkFnV,vargs,slotsL,opdsA,Nat.reduceEqDiff,Nat.reduceLT,Nat.reduceAdd,Nat.reduceBEq,Int.reduceAdd,Int.reduceSub,Int.reduceLT,Int.reduceLE,Int.reduceEq,Int.reduceNeg,↓reduceIte,reduceCtorEq,scL,scD,expand,List.replicate])|apply gC_drawW|((first|apply gI_dec|apply gG_dec|apply gPG_dec|apply gI_var|apply gG_var|apply gPG_var)<;>intro _))
    exact ⟨_,_,_,by omega,.refl _ _,k+1,rfl,hlt,hf,rfl,rfl⟩
  ·have:k=L.length:=by omega
   subst this
   rw[hf,Nat.sub_self,fIdx]
   repeat' (first|(simp (disch:=first|omega|assumption|exact bd (by with_unfolding_all rfl)|exact Or.inl rfl|exact Or.inl trivial|exact okL_map _ (fun _=>rfl) _|(simp only[VVlen]<;>omega)|fail) only[VV0,VV1,VV2,VV3,VV4,VV5,VV6,VV7,VV8,VV9,mkFnV,vargs,slotsL,opdsA,Nat.reduceEqDiff,Nat.reduceLT,Nat.reduceAdd,Nat.reduceBEq,Int.reduceAdd,Int.reduceSub,Int.reduceLT,Int.reduceLE,Int.reduceEq,Int.reduceNeg,↓reduceIte,reduceCtorEq,scL,scD,expand,List.replicate,c81l0])|apply gC_drawW|((first|apply gI_dec|apply gG_dec|apply gPG_dec|apply gI_var|apply gG_var|apply gPG_var)<;>intro _))
   exact .refl _ _
theorem containsF_p (st:VSt) (s s':Nat) (L:List (List Bool)) (hL:L.length≤10000000) (f:FuncId) (caps:List V) (F:Nat→Bool) (h:∀ (st':VSt),st'.own=st.own→∀ i:Nat,i<L.length→VSpecO (EN w n) f st' (dv (rowD s' L[i]!)::caps) (.sc (.bool (F i)))):
  VSpecO (EN w (n+2)) 65 st [.sl s L.length (L.map (rowD s')),.fn f [] caps] (.sc (.bool (decide (0≤fIdx F 0 L.length)))):=by
 refine vspecO_g rfl rfl (fun _ _=>rfl) (Nat.le_of_ble_eq_true rfl) rfl fun C hC h0=>⟨⟨st.own,st.next,st.next⟩,?_⟩
 simp (disch:=first|omega|assumption|exact bd (by with_unfolding_all rfl)|exact Or.inl rfl|exact Or.inl trivial|exact okL_map _ (fun _=>rfl) _|(simp only[VVlen]<;>omega)|fail) only[VV0,VV1,VV2,VV3,VV4,VV5,VV6,VV7,VV8,VV9,mkFnV,vargs,slotsL,opdsA,Nat.reduceEqDiff,Nat.reduceLT,Nat.reduceAdd,Nat.reduceBEq,Int.reduceAdd,Int.reduceSub,Int.reduceLT,Int.reduceLE,Int.reduceEq,Int.reduceNeg,↓reduceIte,reduceCtorEq,scL,scD,expand,List.replicate,c65]
 refine callV_flat (by rw[hC];exact indexF_p w n _ s s' L hL f caps F (h _ rfl)) ?_
 repeat' (first|(simp (disch:=first|omega|assumption|exact bd (by with_unfolding_all rfl)|exact Or.inl rfl|exact Or.inl trivial|exact okL_map _ (fun _=>rfl) _|(simp only[VVlen]<;>omega)|fail) only[VV0,VV1,VV2,VV3,VV4,VV5,VV6,VV7,VV8,VV9,mkFnV,vargs,slotsL,opdsA,Nat.reduceEqDiff,Nat.reduceLT,Nat.reduceAdd,Nat.reduceBEq,Int.reduceAdd,Int.reduceSub,Int.reduceLT,Int.reduceLE,Int.reduceEq,Int.reduceNeg,↓reduceIte,reduceCtorEq,scL,scD,expand,List.replicate])|apply gC_drawW|((first|apply gI_dec|apply gG_dec|apply gPG_dec|apply gI_var|apply gG_var|apply gPG_var)<;>intro _))
 exact .refl _ _
theorem valid_p (s s':Nat) (q:Int) (L:List (List Bool)) (hs:s ≠ 1) (hL:L.length≤1000000) (hr:∀ k,k<L.length→L[k]!.length≤1000000) (hq: -1000000≤q∧q≤1000000):VSpec (EN w (n+4)) 52 [chainV s s' q L] (.sc (.bool (validS q L))) ⟨[],0,0⟩:=by
 refine vspec_flat rfl rfl (fun _ _=>rfl) (Nat.le_of_ble_eq_true rfl) (oldVals w) rfl fun C hC h0=>?_
 by_cases h1:1≤q∧q≤40∧2≤L.length∧L.length≤65
 case neg=>
  have e:validS q L=false:=by
   simp only[validS,decide_eq_false_iff_not];exact fun h=>h1 ⟨h.1,h.2.1,h.2.2.1,h.2.2.2.1⟩
  rw[e]
  repeat' (first|(simp (disch:=first|omega|assumption|exact bd (by with_unfolding_all rfl)|exact Or.inl rfl|exact Or.inl trivial|exact okL_map _ (fun _=>rfl) _|(simp only[VVlen]<;>omega)|fail) only[VV0,VV1,VV2,VV3,VV4,VV5,VV6,VV7,VV8,VV9,mkFnV,vargs,slotsL,opdsA,Nat.reduceEqDiff,Nat.reduceLT,Nat.reduceAdd,Nat.reduceBEq,Int.reduceAdd,Int.reduceSub,Int.reduceLT,Int.reduceLE,Int.reduceEq,Int.reduceNeg,↓reduceIte,reduceCtorEq,scL,scD,expand,List.replicate,c52])|apply gC_drawW|((first|apply gI_dec|apply gG_dec|apply gPG_dec|apply gI_var|apply gG_var|apply gPG_var)<;>intro _))
  all_goals try (exfalso;omega)
  all_goals exact weak_flat rfl h0 rfl
 have e:validS q L= !decide (0≤fIdx (fun k=>decide (¬ (L[k]!.length:Int)=q+1)) 0 L.length):=by
  rw[Bool.eq_iff_iff,Bool.not_eq_true',decide_eq_false_iff_not,fIdx_neg]
  simp only[validS,decide_eq_true_eq]
  constructor
  ·rintro ⟨_,_,_,_,h⟩ ⟨j,_,h2,h3⟩
   exact h3 (h j (by omega))
  ·intro h
   refine ⟨h1.1,h1.2.1,h1.2.2.1,h1.2.2.2,fun k hk=>?_⟩
   by_cases hh:(L[k]!.length:Int)=q+1
   ·exact hh
   ·exact absurd ⟨k,by omega,by omega,hh⟩ h
 rw[e]
 repeat' (first|(simp (disch:=first|omega|assumption|exact bd (by with_unfolding_all rfl)|exact Or.inl rfl|exact Or.inl trivial|exact okL_map _ (fun _=>rfl) _|(simp only[VVlen]<;>omega)|fail) only[VV0,VV1,VV2,VV3,VV4,VV5,VV6,VV7,VV8,VV9,mkFnV,vargs,slotsL,opdsA,Nat.reduceEqDiff,Nat.reduceLT,Nat.reduceAdd,Nat.reduceBEq,Int.reduceAdd,Int.reduceSub,Int.reduceLT,Int.reduceLE,Int.reduceEq,Int.reduceNeg,↓reduceIte,reduceCtorEq,scL,scD,expand,List.replicate,c52])|apply gC_drawW|((first|apply gI_dec|apply gG_dec|apply gPG_dec|apply gI_var|apply gG_var|apply gPG_var)<;>intro _))
 all_goals try (exfalso;omega)
 refine callV_flat (by
  rw[hC]
  exact containsF_p w (n+1) _ s s' L (by omega) 66 [.ptr 0 0] (fun k=>decide (¬ (L[k]!.length:Int)=q+1)) fun st' hst i hi=>validC_p w n st' 0 34 1 q _ s' L[i]! (by rw[hst];rfl) ⟨by omega,by omega⟩ (by have:=hr i hi;omega)) ?_
 repeat' (first|(simp (disch:=first|omega|assumption|exact bd (by with_unfolding_all rfl)|exact Or.inl rfl|exact Or.inl trivial|exact okL_map _ (fun _=>rfl) _|(simp only[VVlen]<;>omega)|fail) only[VV0,VV1,VV2,VV3,VV4,VV5,VV6,VV7,VV8,VV9,mkFnV,vargs,slotsL,opdsA,Nat.reduceEqDiff,Nat.reduceLT,Nat.reduceAdd,Nat.reduceBEq,Int.reduceAdd,Int.reduceSub,Int.reduceLT,Int.reduceLE,Int.reduceEq,Int.reduceNeg,↓reduceIte,reduceCtorEq,scL,scD,expand,List.replicate])|apply gC_drawW|((first|apply gI_dec|apply gG_dec|apply gPG_dec|apply gI_var|apply gG_var|apply gPG_var)<;>intro _))
 exact weak_flat rfl h0 rfl
end
end Go.Proofs.YtepdkmdcainddaaDoor
namespace Go.Proofs.YtepdkmdcainddaaDoor
open Go Go.Itp
set_option maxRecDepth 100000
set_option maxHeartbeats 2000000
set_option linter.unusedSimpArgs false
set_option linter.unusedVariables false
theorem snap_agg2 {H:VHp} {o n:Nat} {t:TypeId} {z:Bool} {a:Value} {l:List D} (h:aget H o=some (.gro t 1 z l)) (hl:l.length=n):snapL H [.agg [.sc a,.gr 2 o n]]=some [.agg [.sc a,.sl 2 n l]]:=by
 have h1:=snap_grD (n:=n) h hl
 generalize V.gr 2 o n=v at*
 simp[snapV,snapL,h1]
theorem at_mid (p r:List UInt8) (b:UInt8):(p++b::r)[p.length]! =b:=by
 rw[getElem!_pos _ _ (by simp),List.getElem_append_right (Nat.le_refl _)]
 simp
theorem idx_mid (s p r:List UInt8) (b:UInt8) (hs:s=p++b::r):idxStrV (strV s) (.sc (.int .i64 p.length))=some (.sc (.int .u8 b.toNat)):=by
 have hl:s.length=p.length+(r.length+1):=by rw[hs];simp
 rw[idxStr_l s .i64 p.length (by omega) (by omega),Int.toNat_natCast,hs,at_mid]
theorem u8_eq (b:UInt8) (k:Nat) (hk:k<256):(((b.toNat:Nat):Int)=(k:Int))↔b=UInt8.ofNat k:=by
 constructor
 ·intro h
  apply UInt8.toNat_inj.1
  rw[UInt8.toNat_ofNat']
  omega
 ·rintro rfl
  rw[UInt8.toNat_ofNat']
  omega
theorem lastL_snoc (cs:List (List Bool)) (c:List Bool):lastL (cs++ [c])=(c.length:Int) - 1:=by simp[lastL]
theorem rowD_snoc (cs:List (List Bool)) (c:List Bool):(cs++ [c]).map (rowD 2)=cs.map (rowD 2)++ [D.sl 2 c.length (c.map bD)]:=by simp[rowD]
section
variable (w:World) (n:Nat)
theorem rparse_p (s:List UInt8) (hl:s.length≤100000):VSpec (EN w (n+2)) 28 [strV s] (chainR (parse18 s)) ⟨[],0,0⟩:=by
 refine vspec_g rfl rfl (fun _ _=>rfl) (Nat.le_of_ble_eq_true rfl) (oldVals w) (retOK_chain _) rfl fun C hC h0=>?_
 have hsz:=mk_size s
 have hrn:C.E.rounds=many:=by rw[hC,callP_rounds]
 repeat' (first|(simp (disch:=first|omega|assumption|exact bd (by with_unfolding_all rfl)|exact Or.inl rfl|exact Or.inl trivial|exact okL_map _ (fun _=>rfl) _|(simp only[VVlen]<;>omega)|fail) only[VV0,VV1,VV2,VV3,VV4,VV5,VV6,VV7,VV8,VV9,mkFnV,vargs,slotsL,opdsA,Nat.reduceEqDiff,Nat.reduceLT,Nat.reduceAdd,Nat.reduceBEq,Int.reduceAdd,Int.reduceSub,Int.reduceLT,Int.reduceLE,Int.reduceEq,Int.reduceNeg,↓reduceIte,reduceCtorEq,scL,scD,expand,List.replicate,c28])|apply gC_drawW|((first|apply gI_dec|apply gG_dec|apply gPG_dec|apply gI_var|apply gG_var|apply gPG_var)<;>intro _))
 refine g_while (fun m fr st=>∃ (cs:List (List Bool)) (p r:List UInt8),m=r.length∧s=p++r∧cs.length≤p.length∧(∀ k,k<cs.length→cs[k]!.length≤100000)∧parseP s [] []=parseP r cs []∧fr= [(0,strV s),(2,.ptr 0 0),(4,.ptr 1 0),(5,.sc (.int .i64 p.length))]∧
   st=⟨[(2,.gro 22 1 false (cs.map (rowD 2))),(1,.box 34 1 [.sc (.int .i64 (lastL cs)),.gr 2 2 cs.length]),(0,.box 34 1 [.sc (.int .i64 0),.sc (.slice none 0 0)])],3,0⟩) s.length ?_ ⟨_,_,weak_nilCell (l:= [.sc (.int .i64 0),.sc (.slice none 0 0)]) 1 34 1 1 22 1 rfl rfl (fun h=>absurd (show (1:Nat)=2 from h) (by decide)),[],[],s,rfl,rfl,Nat.le_refl _,fun k hk=>absurd hk (Nat.not_lt_zero _),rfl,rfl,rfl⟩ ?_
 ·rw[hrn];unfold many;omega
 rintro m fr st ⟨cs,p,r,rfl,hs,hcl,hcb,hps,rfl,rfl⟩
 have hpl:s.length=p.length+r.length:=by rw[hs];simp
 have hcm:(cs.map (rowD 2)).length=cs.length:=by rw[List.length_map]
 by_cases hr:r= []
 ·subst hr
  have hq0:([]:List UInt8).length=0:=rfl
  have hps2:parse18 s=if validS (lastL cs) cs=true then some (lastL cs,cs) else none:=by
   unfold parse18
   rw[hps]
   simp[parseP]
  have hch:=chain_p w n 2 2 (lastL cs) cs
  have hsn:=fun (H:VHp) (h:aget H 2=some (.gro 22 1 false (cs.map (rowD 2))))=>snap_agg2 (a:= .int .i64 (lastL cs)) h hcm
  rw[hps2]
  by_cases hv:validS (lastL cs) cs=true
  ·rw[if_pos hv] at hch ⊢
   repeat' (first|(simp (disch:=first|omega|assumption|exact bd (by with_unfolding_all rfl)|exact Or.inl rfl|exact Or.inl trivial|exact okL_map _ (fun _=>rfl) _|(simp only[VVlen]<;>omega)|fail) only[VV0,VV1,VV2,VV3,VV4,VV5,VV6,VV7,VV8,VV9,mkFnV,vargs,slotsL,opdsA,Nat.reduceEqDiff,Nat.reduceLT,Nat.reduceAdd,Nat.reduceBEq,Int.reduceAdd,Int.reduceSub,Int.reduceLT,Int.reduceLE,Int.reduceEq,Int.reduceNeg,↓reduceIte,reduceCtorEq,scL,scD,expand,List.replicate,c28l1])|apply gC_drawW|((first|apply gI_dec|apply gG_dec|apply gPG_dec|apply gI_var|apply gG_var|apply gPG_var)<;>intro _))
   all_goals try (exfalso;omega)
   refine callV_flat (by rw[hC];exact hch.flat rfl (hsn _ rfl)) ?_
   repeat' (first|(simp (disch:=first|omega|assumption|exact bd (by with_unfolding_all rfl)|exact Or.inl rfl|exact Or.inl trivial|exact okL_map _ (fun _=>rfl) _|(simp only[VVlen]<;>omega)|fail) only[VV0,VV1,VV2,VV3,VV4,VV5,VV6,VV7,VV8,VV9,mkFnV,vargs,slotsL,opdsA,Nat.reduceEqDiff,Nat.reduceLT,Nat.reduceAdd,Nat.reduceBEq,Int.reduceAdd,Int.reduceSub,Int.reduceLT,Int.reduceLE,Int.reduceEq,Int.reduceNeg,↓reduceIte,reduceCtorEq,scL,scD,expand,List.replicate])|apply gC_drawW|((first|apply gI_dec|apply gG_dec|apply gPG_dec|apply gI_var|apply gG_var|apply gPG_var)<;>intro _))
   all_goals try (exfalso;omega)
   exact weak_finA2 (s:=2) (snap_grD rfl hcm) rfl (.inl (by decide)) h0 rfl
  ·rw[if_neg hv] at hch ⊢
   repeat' (first|(simp (disch:=first|omega|assumption|exact bd (by with_unfolding_all rfl)|exact Or.inl rfl|exact Or.inl trivial|exact okL_map _ (fun _=>rfl) _|(simp only[VVlen]<;>omega)|fail) only[VV0,VV1,VV2,VV3,VV4,VV5,VV6,VV7,VV8,VV9,mkFnV,vargs,slotsL,opdsA,Nat.reduceEqDiff,Nat.reduceLT,Nat.reduceAdd,Nat.reduceBEq,Int.reduceAdd,Int.reduceSub,Int.reduceLT,Int.reduceLE,Int.reduceEq,Int.reduceNeg,↓reduceIte,reduceCtorEq,scL,scD,expand,List.replicate,c28l1])|apply gC_drawW|((first|apply gI_dec|apply gG_dec|apply gPG_dec|apply gI_var|apply gG_var|apply gPG_var)<;>intro _))
   all_goals try (exfalso;omega)
   refine callV_flat (by rw[hC];exact hch.flat rfl (hsn _ rfl)) ?_
   repeat' (first|(simp (disch:=first|omega|assumption|exact bd (by with_unfolding_all rfl)|exact Or.inl rfl|exact Or.inl trivial|exact okL_map _ (fun _=>rfl) _|(simp only[VVlen]<;>omega)|fail) only[VV0,VV1,VV2,VV3,VV4,VV5,VV6,VV7,VV8,VV9,mkFnV,vargs,slotsL,opdsA,Nat.reduceEqDiff,Nat.reduceLT,Nat.reduceAdd,Nat.reduceBEq,Int.reduceAdd,Int.reduceSub,Int.reduceLT,Int.reduceLE,Int.reduceEq,Int.reduceNeg,↓reduceIte,reduceCtorEq,scL,scD,expand,List.replicate])|apply gC_drawW|((first|apply gI_dec|apply gG_dec|apply gPG_dec|apply gI_var|apply gG_var|apply gPG_var)<;>intro _))
   all_goals try (exfalso;omega)
   exact weak_finA2Nil h0 rfl
 have hrl:=List.length_pos_iff.2 hr
 repeat' (first|(simp (disch:=first|omega|assumption|exact bd (by with_unfolding_all rfl)|exact Or.inl rfl|exact Or.inl trivial|exact okL_map _ (fun _=>rfl) _|(simp only[VVlen]<;>omega)|fail) only[VV0,VV1,VV2,VV3,VV4,VV5,VV6,VV7,VV8,VV9,mkFnV,vargs,slotsL,opdsA,Nat.reduceEqDiff,Nat.reduceLT,Nat.reduceAdd,Nat.reduceBEq,Int.reduceAdd,Int.reduceSub,Int.reduceLT,Int.reduceLE,Int.reduceEq,Int.reduceNeg,↓reduceIte,reduceCtorEq,scL,scD,expand,List.replicate,c28l1])|apply gC_drawW|((first|apply gI_dec|apply gG_dec|apply gPG_dec|apply gI_var|apply gG_var|apply gPG_var)<;>intro _))
 all_goals try (exfalso;omega)
 refine g_while (fun m fr st=>∃ (c:List Bool) (x r2:List UInt8),m=r2.length∧r=x++r2∧c.length=x.length∧parseP r cs []=parseP r2 cs c∧fr= [(0,strV s),(2,.ptr 0 0),(4,.ptr 1 0),(5,.sc (.int .i64 ((p++x).length:Nat))),(6,.gr 2 3 c.length)]∧
   st=⟨[(3,.gro 4 1 false (c.map bD)),(2,.gro 22 1 false (cs.map (rowD 2))),(1,.box 34 1 [.sc (.int .i64 (lastL cs)),.gr 2 2 cs.length]),(0,.box 34 1 [.sc (.int .i64 0),.sc (.slice none 0 0)])],4,0⟩) r.length ?_ ⟨_,_,weak_nilSlot 6 4 1 rfl,[],[],r,rfl,rfl,rfl,rfl,by rw[List.append_nil];rfl,rfl⟩ ?_
 ·rw[hrn];unfold many;omega
 rintro m fr st ⟨c,x,r2,rfl,hrx,hcx,hpr,rfl,rfl⟩
 have hrl2:r.length=x.length+r2.length:=by rw[hrx];simp
 have hpx:(p++x).length=p.length+x.length:=by simp
 have hcm2:(c.map bD).length=c.length:=by rw[List.length_map]
 have hpsr:=hps
 rw[hpr] at hps
 cases r2 with
 |nil=>
  have hq0:([]:List UInt8).length=0:=rfl
  have hcn:c ≠ []:=fun e=>by rw[e] at hcx;simp at hcx;omega
  have hps2:parse18 s=none:=by
   unfold parse18
   rw[hps]
   simp[parseP,hcn]
  rw[hps2]
  repeat' (first|(simp (disch:=first|omega|assumption|exact bd (by with_unfolding_all rfl)|exact Or.inl rfl|exact Or.inl trivial|exact okL_map _ (fun _=>rfl) _|(simp only[VVlen]<;>omega)|fail) only[VV0,VV1,VV2,VV3,VV4,VV5,VV6,VV7,VV8,VV9,mkFnV,vargs,slotsL,opdsA,Nat.reduceEqDiff,Nat.reduceLT,Nat.reduceAdd,Nat.reduceBEq,Int.reduceAdd,Int.reduceSub,Int.reduceLT,Int.reduceLE,Int.reduceEq,Int.reduceNeg,↓reduceIte,reduceCtorEq,scL,scD,expand,List.replicate,c28l0])|apply gC_drawW|((first|apply gI_dec|apply gG_dec|apply gPG_dec|apply gI_var|apply gG_var|apply gPG_var)<;>intro _))
  all_goals try (exfalso;omega)
  exact weak_finA2Nil h0 rfl
 |cons b r3=>
  have hq0:(b::r3).length=r3.length+1:=rfl
  have hb:=idx_mid s (p++x) r3 b (by rw[hs,hrx];simp)
  have hpx1:(p++(x++ [b])).length=(p++x).length+1:=by simp;omega
  have e111:=u8_eq b 111 (by decide)
  have e46:=u8_eq b 46 (by decide)
  have e10:=u8_eq b 10 (by decide)
  rw[parseP] at hpr
  by_cases h1:b=111
  ·rw[if_pos (.inl h1),decide_eq_true h1] at hpr
   have i1:=e111.2 h1
   simp only[Int.cast_ofNat_Int] at i1
   repeat' (first|(simp (disch:=first|omega|assumption|exact bd (by with_unfolding_all rfl)|exact Or.inl rfl|exact Or.inl trivial|exact okL_map _ (fun _=>rfl) _|(simp only[VVlen]<;>omega)|fail) only[VV0,VV1,VV2,VV3,VV4,VV5,VV6,VV7,VV8,VV9,mkFnV,vargs,slotsL,opdsA,Nat.reduceEqDiff,Nat.reduceLT,Nat.reduceAdd,Nat.reduceBEq,Int.reduceAdd,Int.reduceSub,Int.reduceLT,Int.reduceLE,Int.reduceEq,Int.reduceNeg,↓reduceIte,reduceCtorEq,scL,scD,expand,List.replicate,c28l0,hb,i1])|apply gC_drawW|((first|apply gI_dec|apply gG_dec|apply gPG_dec|apply gI_var|apply gG_var|apply gPG_var)<;>intro _))
   all_goals try (exfalso;omega)
   refine ⟨_,_,_,?_,weak_to [(5,3),(2,2),(1,1),(0,0)] 4 h0 rfl rfl rfl rfl,c++ [true],x++ [b],r3,rfl,by rw[hrx];simp,by simp[hcx],hpr,?_,?_⟩
   ·omega
   ·rw[hpx1,show (c++ [true]).length=c.length+1 by simp];rfl
   ·rw[List.map_append];rfl
  by_cases h2:b=46
  ·rw[if_pos (.inr h2),decide_eq_false h1] at hpr
   have i1:=e46.2 h2
   simp only[Int.cast_ofNat_Int] at i1
   repeat' (first|(simp (disch:=first|omega|assumption|exact bd (by with_unfolding_all rfl)|exact Or.inl rfl|exact Or.inl trivial|exact okL_map _ (fun _=>rfl) _|(simp only[VVlen]<;>omega)|fail) only[VV0,VV1,VV2,VV3,VV4,VV5,VV6,VV7,VV8,VV9,mkFnV,vargs,slotsL,opdsA,Nat.reduceEqDiff,Nat.reduceLT,Nat.reduceAdd,Nat.reduceBEq,Int.reduceAdd,Int.reduceSub,Int.reduceLT,Int.reduceLE,Int.reduceEq,Int.reduceNeg,↓reduceIte,reduceCtorEq,scL,scD,expand,List.replicate,c28l0,hb,i1])|apply gC_drawW|((first|apply gI_dec|apply gG_dec|apply gPG_dec|apply gI_var|apply gG_var|apply gPG_var)<;>intro _))
   all_goals try (exfalso;omega)
   refine ⟨_,_,_,?_,weak_to [(5,3),(2,2),(1,1),(0,0)] 4 h0 rfl rfl rfl rfl,c++ [false],x++ [b],r3,rfl,by rw[hrx];simp,by simp[hcx],hpr,?_,?_⟩
   ·omega
   ·rw[hpx1,show (c++ [false]).length=c.length+1 by simp];rfl
   ·rw[List.map_append];rfl
  have i1:¬ ((b.toNat:Nat):Int)=111:=fun h=>h1 (e111.1 h)
  have i2:¬ ((b.toNat:Nat):Int)=46:=fun h=>h2 (e46.1 h)
  rw[if_neg (fun h=>h.elim h1 h2)] at hpr
  by_cases h3:b=10
  ·have i3:=e10.2 h3
   simp only[Int.cast_ofNat_Int] at i3
   rw[if_pos h3] at hpr
   have hl1:=lastL_snoc cs c
   have hr1:=rowD_snoc cs c
   repeat' (first|(simp (disch:=first|omega|assumption|exact bd (by with_unfolding_all rfl)|exact Or.inl rfl|exact Or.inl trivial|exact okL_map _ (fun _=>rfl) _|(simp only[VVlen]<;>omega)|fail) only[VV0,VV1,VV2,VV3,VV4,VV5,VV6,VV7,VV8,VV9,mkFnV,vargs,slotsL,opdsA,Nat.reduceEqDiff,Nat.reduceLT,Nat.reduceAdd,Nat.reduceBEq,Int.reduceAdd,Int.reduceSub,Int.reduceLT,Int.reduceLE,Int.reduceEq,Int.reduceNeg,↓reduceIte,reduceCtorEq,scL,scD,expand,List.replicate,c28l0,hb,i1,i2,i3])|apply gC_drawW|((first|apply gI_dec|apply gG_dec|apply gPG_dec|apply gI_var|apply gG_var|apply gPG_var)<;>intro _))
   all_goals try (exfalso;omega)
   refine ⟨_,_,_,?_,weak_to [(5,2),(1,1),(0,0)] 3 h0 rfl rfl rfl rfl,cs++ [c],p++(x++ [b]),r3,rfl,by rw[hs,hrx];simp,?_,?_,?_,?_,?_⟩
   ·omega
   ·rw[List.length_append,hpx1];simp;omega
   ·intro k hk
    by_cases hkc:k<cs.length
    ·rw[getElem!_pos _ k hk,List.getElem_append_left hkc,← getElem!_pos cs k hkc]
     exact hcb k hkc
    ·rw[getElem!_pos _ k hk,List.getElem_append_right (by omega),List.getElem_singleton]
     omega
   ·rw[hpsr,hpr]
   ·rw[hpx1];rfl
   ·rw[hr1,hl1,List.length_append];rfl
  ·have i3:¬ ((b.toNat:Nat):Int)=10:=fun h=>h3 (e10.1 h)
   rw[if_neg h3] at hpr
   have hps2:parse18 s=none:=by
    unfold parse18
    rw[hpsr,hpr]
   rw[hps2]
   repeat' (first|(simp (disch:=first|omega|assumption|exact bd (by with_unfolding_all rfl)|exact Or.inl rfl|exact Or.inl trivial|exact okL_map _ (fun _=>rfl) _|(simp only[VVlen]<;>omega)|fail) only[VV0,VV1,VV2,VV3,VV4,VV5,VV6,VV7,VV8,VV9,mkFnV,vargs,slotsL,opdsA,Nat.reduceEqDiff,Nat.reduceLT,Nat.reduceAdd,Nat.reduceBEq,Int.reduceAdd,Int.reduceSub,Int.reduceLT,Int.reduceLE,Int.reduceEq,Int.reduceNeg,↓reduceIte,reduceCtorEq,scL,scD,expand,List.replicate,c28l0,hb,i1,i2,i3])|apply gC_drawW|((first|apply gI_dec|apply gG_dec|apply gPG_dec|apply gI_var|apply gG_var|apply gPG_var)<;>intro _))
   all_goals try (exfalso;omega)
   exact weak_finA2Nil h0 rfl
end
end Go.Proofs.YtepdkmdcainddaaDoor
namespace Go.Proofs.YtepdkmdcainddaaDoor
open Go Go.Itp
set_option maxRecDepth 100000
set_option maxHeartbeats 2000000
set_option linter.unusedSimpArgs false
set_option linter.unusedVariables false
theorem eqNilS_gr0 (g:Bool) (o:Nat):eqNilV 1 g (.gr 2 o 0) (.sc (.slice none 0 0))=some (.sc (.bool (!g))):=by
 rw[eqNilV_nil g _ (Nat.beq 0 0) rfl]
 cases g<;>rfl
theorem get_pos (s p r:List UInt8) (b:UInt8) (hs:s=p++b::r):(ByteArray.mk s.toArray).get! p.length=b:=by
 rw[get_l s p.length (by rw[hs];simp),hs,at_mid]
theorem next_small (s p r:List UInt8) (b:UInt8) (hs:s=p++b::r) (hb:b.toNat<128) (hl:s.length≤100000) (H:VHp) (nx o:Nat) (ho:aget H o=some (itO ⟨s.toArray⟩ p.length)):
  vnext ⟨H,nx,0⟩ (.ptr o 0)=some (.tup [.sc (.bool true),.sc (.int .i64 p.length),.sc (.int .i32 b.toNat)],⟨aset H o (itO ⟨s.toArray⟩ (p.length+1)),nx,0⟩):=by
 have hsz:=mk_size s
 have hpl:s.length=p.length+(r.length+1):=by rw[hs];simp
 have hd:=decode_small (s:=⟨s.toArray⟩) (i:=p.length) (by rw[get_pos s p r b hs];exact hb)
 rw[get_pos s p r b hs] at hd
 have:=vnext_more (st:=⟨H,nx,0⟩) o ⟨s.toArray⟩ p.length ho (Nat.zero_le _) (by omega) (by omega)
 rw[hd] at this
 exact this
theorem next_big (s p r:List UInt8) (b:UInt8) (hs:s=p++b::r) (hb:¬ b.toNat<128) (hl:s.length≤100000) (H:VHp) (nx o:Nat) (ho:aget H o=some (itO ⟨s.toArray⟩ p.length)):
  ∃ u k:Nat,128≤u∧vnext ⟨H,nx,0⟩ (.ptr o 0)=some (.tup [.sc (.bool true),.sc (.int .i64 p.length),.sc (.int .i32 u)],⟨aset H o (itO ⟨s.toArray⟩ k),nx,0⟩):=by
 have hsz:=mk_size s
 have hpl:s.length=p.length+(r.length+1):=by rw[hs];simp
 have hd:=decode_big (s:=⟨s.toArray⟩) (i:=p.length) (by rw[get_pos s p r b hs];exact hb)
 exact ⟨_,_,hd,vnext_more (st:=⟨H,nx,0⟩) o ⟨s.toArray⟩ p.length ho (Nat.zero_le _) (by omega) (by omega)⟩
theorem next_end (s:List UInt8) (hl:s.length≤100000) (H:VHp) (nx o:Nat) (ho:aget H o=some (itO ⟨s.toArray⟩ s.length)):vnext ⟨H,nx,0⟩ (.ptr o 0)=some (.tup [.sc (.bool false)],⟨H,nx,0⟩):=by
 have hsz:=mk_size s
 exact vnext_end (st:=⟨H,nx,0⟩) o ⟨s.toArray⟩ s.length ho (Nat.zero_le _) (by omega) (by omega) (by omega)
abbrev chnH (g:Nat) (s:List UInt8) (pos:Nat) (cs:List (List Bool)) (c:List Bool):VHp:=
 [(4,.gro 4 1 false (c.map bD)),(3,.gro 22 1 false (cs.map (rowD 2))),(2,itO ⟨s.toArray⟩ pos),(1,.box 34 1 [.sc (.int .i64 0),.gr 2 3 cs.length]),(0,.box 34 1 [.sc (.int .i64 0),.sc (.slice none 0 0)])]
section
variable (w:World) (n:Nat)
theorem parse_p (s:List UInt8) (hl:s.length≤100000):VSpec (EN w (n+5)) 27 [strV s] (chainR (parse18 s)) ⟨[],0,0⟩:=by
 refine vspec_g rfl rfl (fun _ _=>rfl) (Nat.le_of_ble_eq_true rfl) (oldVals w) (retOK_chain _) rfl fun C hC h0=>?_
 have hsz:=mk_size s
 have hrn:C.E.rounds=many:=by rw[hC,callP_rounds]
 have hrs:=fun nx=>rangeSV_str nx ⟨s.toArray⟩ (by omega)
 repeat' (first|(simp (disch:=first|omega|assumption|exact bd (by with_unfolding_all rfl)|exact Or.inl rfl|exact Or.inl trivial|exact okL_map _ (fun _=>rfl) _|(simp only[VVlen]<;>omega)|fail) only[VV0,VV1,VV2,VV3,VV4,VV5,VV6,VV7,VV8,VV9,mkFnV,vargs,slotsL,opdsA,Nat.reduceEqDiff,Nat.reduceLT,Nat.reduceAdd,Nat.reduceBEq,Int.reduceAdd,Int.reduceSub,Int.reduceLT,Int.reduceLE,Int.reduceEq,Int.reduceNeg,↓reduceIte,reduceCtorEq,scL,scD,expand,List.replicate,c27,pv_rangeS,hrs])|apply gC_drawW|((first|apply gI_dec|apply gG_dec|apply gPG_dec|apply gI_var|apply gG_var|apply gPG_var)<;>intro _))
 refine g_while (fun m fr st=>∃ (cs:List (List Bool)) (c:List Bool) (p r:List UInt8),m=r.length∧s=p++r∧cs.length+c.length≤p.length∧(∀ k,k<cs.length→cs[k]!.length≤100000)∧parseP s [] []=parseP r cs c∧fr= [(2,.ptr 0 0),(4,.ptr 1 0),(5,.gr 2 4 c.length),(9,.ptr 2 0)]∧
   st=⟨chnH 0 s p.length cs c,5,0⟩) s.length ?_
   ⟨_,_,(weak_nilCell (C:=C) (l:= [.sc (.int .i64 0),.sc (.slice none 0 0)]) 1 34 1 1 22 1 rfl rfl (fun h=>absurd (show (1:Nat)=3 from h) (by decide))).trans (weak_nilSlot 5 4 1 rfl),[],[],[],s,rfl,rfl,Nat.le_refl _,fun k hk=>absurd hk (Nat.not_lt_zero _),rfl,rfl,rfl⟩ ?_
 ·rw[hrn];unfold many;omega
 rintro m fr st ⟨cs,c,p,r,rfl,hs,hcl,hcb,hps,rfl,rfl⟩
 have hpl:s.length=p.length+r.length:=by rw[hs];simp
 have hcm:(cs.map (rowD 2)).length=cs.length:=by rw[List.length_map]
 have hcm2:(c.map bD).length=c.length:=by rw[List.length_map]
 cases r with
 |nil=>
  have hq0:([]:List UInt8).length=0:=rfl
  have hnx:=next_end s hl (chnH 0 s p.length cs c) 5 2 (by rw[show s.length=p.length by omega];rfl)
  have hps2:parse18 s=if c= []∧validS (lastL cs) cs=true then some (lastL cs,cs) else none:=by
   unfold parse18
   rw[hps]
   rfl
  by_cases hc:c= []
  case neg=>
   have hcn:c.length ≠ 0:=fun e=>hc (List.eq_nil_of_length_eq_zero e)
   rw[if_neg (fun h=>hc h.1)] at hps2
   rw[hps2]
   repeat' (first|(simp (disch:=first|omega|assumption|exact bd (by with_unfolding_all rfl)|exact Or.inl rfl|exact Or.inl trivial|exact okL_map _ (fun _=>rfl) _|(simp only[VVlen]<;>omega)|fail) only[VV0,VV1,VV2,VV3,VV4,VV5,VV6,VV7,VV8,VV9,mkFnV,vargs,slotsL,opdsA,Nat.reduceEqDiff,Nat.reduceLT,Nat.reduceAdd,Nat.reduceBEq,Int.reduceAdd,Int.reduceSub,Int.reduceLT,Int.reduceLE,Int.reduceEq,Int.reduceNeg,↓reduceIte,reduceCtorEq,scL,scD,expand,List.replicate,c27l0,pv_nextS,wv_nextS,hnx,eqNilS_gr])|apply gC_drawW|((first|apply gI_dec|apply gG_dec|apply gPG_dec|apply gI_var|apply gG_var|apply gPG_var)<;>intro _))
   exact weak_finA2Nil h0 rfl
  subst hc
  have hc0:([]:List Bool).length=0:=rfl
  by_cases hcs:cs= []
  ·subst hcs
   rw[hps2,if_neg (fun h=>absurd h.2 (by decide))]
   repeat' (first|(simp (disch:=first|omega|assumption|exact bd (by with_unfolding_all rfl)|exact Or.inl rfl|exact Or.inl trivial|exact okL_map _ (fun _=>rfl) _|(simp only[VVlen]<;>omega)|fail) only[VV0,VV1,VV2,VV3,VV4,VV5,VV6,VV7,VV8,VV9,mkFnV,vargs,slotsL,opdsA,Nat.reduceEqDiff,Nat.reduceLT,Nat.reduceAdd,Nat.reduceBEq,Int.reduceAdd,Int.reduceSub,Int.reduceLT,Int.reduceLE,Int.reduceEq,Int.reduceNeg,↓reduceIte,reduceCtorEq,scL,scD,expand,List.replicate,c27l0,pv_nextS,wv_nextS,hnx,eqNilS_gr0])|apply gC_drawW|((first|apply gI_dec|apply gG_dec|apply gPG_dec|apply gI_var|apply gG_var|apply gPG_var)<;>intro _))
   exact weak_finA2Nil h0 rfl
  have hcsl:=List.length_pos_iff.2 hcs
  have hcb0:=hcb 0 hcsl
  have hvp:=valid_p w n 2 2 ((cs[0]!.length:Int) - 1) cs (by decide) (by omega) (fun k hk=>by have:=hcb k hk;omega) ⟨by omega,by omega⟩
  have hvf:=valid_first cs
  have hsn:=fun (H:VHp) (h:aget H 3=some (.gro 22 1 false (cs.map (rowD 2))))=>snap_agg2 (a:= .int .i64 ((cs[0]!.length:Int) - 1)) h hcm
  by_cases hv:validS (lastL cs) cs=true
  ·rw[if_pos ⟨rfl,hv⟩] at hps2
   have hq:=(valid_head hv).1
   rw[hvf,hv] at hvp
   rw[hps2]
   repeat' (first|(simp (disch:=first|omega|assumption|exact bd (by with_unfolding_all rfl)|exact Or.inl rfl|exact Or.inl trivial|exact okL_map _ (fun _=>rfl) _|(simp only[VVlen]<;>omega)|fail) only[VV0,VV1,VV2,VV3,VV4,VV5,VV6,VV7,VV8,VV9,mkFnV,vargs,slotsL,opdsA,Nat.reduceEqDiff,Nat.reduceLT,Nat.reduceAdd,Nat.reduceBEq,Int.reduceAdd,Int.reduceSub,Int.reduceLT,Int.reduceLE,Int.reduceEq,Int.reduceNeg,↓reduceIte,reduceCtorEq,scL,scD,expand,List.replicate,c27l0,pv_nextS,wv_nextS,hnx,eqNilS_gr0,rowD_dv,Int.toNat_zero])|apply gC_drawW|((first|apply gI_dec|apply gG_dec|apply gPG_dec|apply gI_var|apply gG_var|apply gPG_var)<;>intro _))
   all_goals try (exfalso;omega)
   refine callV_flat (by rw[hC];exact hvp.flat rfl (hsn _ rfl)) ?_
   repeat' (first|(simp (disch:=first|omega|assumption|exact bd (by with_unfolding_all rfl)|exact Or.inl rfl|exact Or.inl trivial|exact okL_map _ (fun _=>rfl) _|(simp only[VVlen]<;>omega)|fail) only[VV0,VV1,VV2,VV3,VV4,VV5,VV6,VV7,VV8,VV9,mkFnV,vargs,slotsL,opdsA,Nat.reduceEqDiff,Nat.reduceLT,Nat.reduceAdd,Nat.reduceBEq,Int.reduceAdd,Int.reduceSub,Int.reduceLT,Int.reduceLE,Int.reduceEq,Int.reduceNeg,↓reduceIte,reduceCtorEq,scL,scD,expand,List.replicate])|apply gC_drawW|((first|apply gI_dec|apply gG_dec|apply gPG_dec|apply gI_var|apply gG_var|apply gPG_var)<;>intro _))
   rw[← hq]
   exact weak_finA2 (s:=2) (snap_grD rfl hcm) rfl (.inl (by decide)) h0 rfl
  ·rw[if_neg (fun h=>hv h.2)] at hps2
   rw[hvf,Bool.eq_false_iff.2 hv] at hvp
   rw[hps2]
   repeat' (first|(simp (disch:=first|omega|assumption|exact bd (by with_unfolding_all rfl)|exact Or.inl rfl|exact Or.inl trivial|exact okL_map _ (fun _=>rfl) _|(simp only[VVlen]<;>omega)|fail) only[VV0,VV1,VV2,VV3,VV4,VV5,VV6,VV7,VV8,VV9,mkFnV,vargs,slotsL,opdsA,Nat.reduceEqDiff,Nat.reduceLT,Nat.reduceAdd,Nat.reduceBEq,Int.reduceAdd,Int.reduceSub,Int.reduceLT,Int.reduceLE,Int.reduceEq,Int.reduceNeg,↓reduceIte,reduceCtorEq,scL,scD,expand,List.replicate,c27l0,pv_nextS,wv_nextS,hnx,eqNilS_gr0,rowD_dv,Int.toNat_zero])|apply gC_drawW|((first|apply gI_dec|apply gG_dec|apply gPG_dec|apply gI_var|apply gG_var|apply gPG_var)<;>intro _))
   all_goals try (exfalso;omega)
   refine callV_flat (by rw[hC];exact hvp.flat rfl (hsn _ rfl)) ?_
   repeat' (first|(simp (disch:=first|omega|assumption|exact bd (by with_unfolding_all rfl)|exact Or.inl rfl|exact Or.inl trivial|exact okL_map _ (fun _=>rfl) _|(simp only[VVlen]<;>omega)|fail) only[VV0,VV1,VV2,VV3,VV4,VV5,VV6,VV7,VV8,VV9,mkFnV,vargs,slotsL,opdsA,Nat.reduceEqDiff,Nat.reduceLT,Nat.reduceAdd,Nat.reduceBEq,Int.reduceAdd,Int.reduceSub,Int.reduceLT,Int.reduceLE,Int.reduceEq,Int.reduceNeg,↓reduceIte,reduceCtorEq,scL,scD,expand,List.replicate])|apply gC_drawW|((first|apply gI_dec|apply gG_dec|apply gPG_dec|apply gI_var|apply gG_var|apply gPG_var)<;>intro _))
   exact weak_finA2Nil h0 rfl
 |cons b r3=>
  have hq0:(b::r3).length=r3.length+1:=rfl
  have hpx1:(p++ [b]).length=p.length+1:=by simp
  have e111:=u8_eq b 111 (by decide)
  have e46:=u8_eq b 46 (by decide)
  have e10:=u8_eq b 10 (by decide)
  rw[parseP] at hps
  by_cases hbig:b.toNat<128
  case neg=>
   obtain ⟨u,k,hu,hnx⟩:=next_big s p r3 b hs hbig hl (chnH 0 s p.length cs c) 5 2 rfl
   have hps2:parse18 s=none:=by
    unfold parse18
    rw[hps,if_neg (by rintro (rfl|rfl)<;>exact hbig (by decide)),if_neg (by rintro rfl;exact hbig (by decide))]
   rw[hps2]
   repeat' (first|(simp (disch:=first|omega|assumption|exact bd (by with_unfolding_all rfl)|exact Or.inl rfl|exact Or.inl trivial|exact okL_map _ (fun _=>rfl) _|(simp only[VVlen]<;>omega)|fail) only[VV0,VV1,VV2,VV3,VV4,VV5,VV6,VV7,VV8,VV9,mkFnV,vargs,slotsL,opdsA,Nat.reduceEqDiff,Nat.reduceLT,Nat.reduceAdd,Nat.reduceBEq,Int.reduceAdd,Int.reduceSub,Int.reduceLT,Int.reduceLE,Int.reduceEq,Int.reduceNeg,↓reduceIte,reduceCtorEq,scL,scD,expand,List.replicate,c27l0,pv_nextS,wv_nextS,hnx])|apply gC_drawW|((first|apply gI_dec|apply gG_dec|apply gPG_dec|apply gI_var|apply gG_var|apply gPG_var)<;>intro _))
   all_goals try (exfalso;omega)
   exact weak_finA2Nil h0 rfl
  have hnx:=next_small s p r3 b hs hbig hl (chnH 0 s p.length cs c) 5 2 rfl
  by_cases h1:b=111
  ·rw[if_pos (.inl h1),decide_eq_true h1] at hps
   have i1:=e111.2 h1
   simp only[Int.cast_ofNat_Int] at i1
   repeat' (first|(simp (disch:=first|omega|assumption|exact bd (by with_unfolding_all rfl)|exact Or.inl rfl|exact Or.inl trivial|exact okL_map _ (fun _=>rfl) _|(simp only[VVlen]<;>omega)|fail) only[VV0,VV1,VV2,VV3,VV4,VV5,VV6,VV7,VV8,VV9,mkFnV,vargs,slotsL,opdsA,Nat.reduceEqDiff,Nat.reduceLT,Nat.reduceAdd,Nat.reduceBEq,Int.reduceAdd,Int.reduceSub,Int.reduceLT,Int.reduceLE,Int.reduceEq,Int.reduceNeg,↓reduceIte,reduceCtorEq,scL,scD,expand,List.replicate,c27l0,pv_nextS,wv_nextS,hnx,i1])|apply gC_drawW|((first|apply gI_dec|apply gG_dec|apply gPG_dec|apply gI_var|apply gG_var|apply gPG_var)<;>intro _))
   all_goals try (exfalso;omega)
   refine ⟨_,_,_,?_,weak_to [(6,4),(3,3),(2,2),(1,1),(0,0)] 5 h0 rfl rfl rfl rfl,cs,c++ [true],p++ [b],r3,rfl,by rw[hs];simp,?_,hcb,hps,?_,?_⟩
   ·omega
   ·rw[hpx1,show (c++ [true]).length=c.length+1 by simp];omega
   ·rw[show (c++ [true]).length=c.length+1 by simp];rfl
   ·rw[hpx1,chnH,List.map_append];rfl
  by_cases h2:b=46
  ·rw[if_pos (.inr h2),decide_eq_false h1] at hps
   have i1:=e46.2 h2
   simp only[Int.cast_ofNat_Int] at i1
   repeat' (first|(simp (disch:=first|omega|assumption|exact bd (by with_unfolding_all rfl)|exact Or.inl rfl|exact Or.inl trivial|exact okL_map _ (fun _=>rfl) _|(simp only[VVlen]<;>omega)|fail) only[VV0,VV1,VV2,VV3,VV4,VV5,VV6,VV7,VV8,VV9,mkFnV,vargs,slotsL,opdsA,Nat.reduceEqDiff,Nat.reduceLT,Nat.reduceAdd,Nat.reduceBEq,Int.reduceAdd,Int.reduceSub,Int.reduceLT,Int.reduceLE,Int.reduceEq,Int.reduceNeg,↓reduceIte,reduceCtorEq,scL,scD,expand,List.replicate,c27l0,pv_nextS,wv_nextS,hnx,i1])|apply gC_drawW|((first|apply gI_dec|apply gG_dec|apply gPG_dec|apply gI_var|apply gG_var|apply gPG_var)<;>intro _))
   all_goals try (exfalso;omega)
   refine ⟨_,_,_,?_,weak_to [(6,4),(3,3),(2,2),(1,1),(0,0)] 5 h0 rfl rfl rfl rfl,cs,c++ [false],p++ [b],r3,rfl,by rw[hs];simp,?_,hcb,hps,?_,?_⟩
   ·omega
   ·rw[hpx1,show (c++ [false]).length=c.length+1 by simp];omega
   ·rw[show (c++ [false]).length=c.length+1 by simp];rfl
   ·rw[hpx1,chnH,List.map_append];rfl
  have i1:¬ ((b.toNat:Nat):Int)=111:=fun h=>h1 (e111.1 h)
  have i2:¬ ((b.toNat:Nat):Int)=46:=fun h=>h2 (e46.1 h)
  rw[if_neg (fun h=>h.elim h1 h2)] at hps
  by_cases h3:b=10
  ·have i3:=e10.2 h3
   simp only[Int.cast_ofNat_Int] at i3
   rw[if_pos h3] at hps
   have hr1:=rowD_snoc cs c
   repeat' (first|(simp (disch:=first|omega|assumption|exact bd (by with_unfolding_all rfl)|exact Or.inl rfl|exact Or.inl trivial|exact okL_map _ (fun _=>rfl) _|(simp only[VVlen]<;>omega)|fail) only[VV0,VV1,VV2,VV3,VV4,VV5,VV6,VV7,VV8,VV9,mkFnV,vargs,slotsL,opdsA,Nat.reduceEqDiff,Nat.reduceLT,Nat.reduceAdd,Nat.reduceBEq,Int.reduceAdd,Int.reduceSub,Int.reduceLT,Int.reduceLE,Int.reduceEq,Int.reduceNeg,↓reduceIte,reduceCtorEq,scL,scD,expand,List.replicate,c27l0,pv_nextS,wv_nextS,hnx,i1,i2,i3])|apply gC_drawW|((first|apply gI_dec|apply gG_dec|apply gPG_dec|apply gI_var|apply gG_var|apply gPG_var)<;>intro _))
   all_goals try (exfalso;omega)
   refine ⟨_,_,_,?_,(weak_to [(6,3),(2,2),(1,1),(0,0)] 4 h0 rfl rfl rfl rfl).trans (weak_nilSlot 5 4 1 rfl),cs++ [c],[],p++ [b],r3,rfl,by rw[hs];simp,?_,?_,hps,?_,?_⟩
   ·omega
   ·rw[List.length_append,hpx1];simp;omega
   ·intro k hk
    by_cases hkc:k<cs.length
    ·rw[getElem!_pos _ k hk,List.getElem_append_left hkc,← getElem!_pos cs k hkc]
     exact hcb k hkc
    ·rw[getElem!_pos _ k hk,List.getElem_append_right (by omega),List.getElem_singleton]
     omega
   ·rfl
   ·rw[hpx1,chnH,hr1,List.length_append];rfl
  ·have i3:¬ ((b.toNat:Nat):Int)=10:=fun h=>h3 (e10.1 h)
   rw[if_neg h3] at hps
   have hps2:parse18 s=none:=by
    unfold parse18
    rw[hps]
   rw[hps2]
   repeat' (first|(simp (disch:=first|omega|assumption|exact bd (by with_unfolding_all rfl)|exact Or.inl rfl|exact Or.inl trivial|exact okL_map _ (fun _=>rfl) _|(simp only[VVlen]<;>omega)|fail) only[VV0,VV1,VV2,VV3,VV4,VV5,VV6,VV7,VV8,VV9,mkFnV,vargs,slotsL,opdsA,Nat.reduceEqDiff,Nat.reduceLT,Nat.reduceAdd,Nat.reduceBEq,Int.reduceAdd,Int.reduceSub,Int.reduceLT,Int.reduceLE,Int.reduceEq,Int.reduceNeg,↓reduceIte,reduceCtorEq,scL,scD,expand,List.replicate,c27l0,pv_nextS,wv_nextS,hnx,i1,i2,i3])|apply gC_drawW|((first|apply gI_dec|apply gG_dec|apply gPG_dec|apply gI_var|apply gG_var|apply gPG_var)<;>intro _))
   all_goals try (exfalso;omega)
   exact weak_finA2Nil h0 rfl
end
end Go.Proofs.YtepdkmdcainddaaDoor
namespace Go.Proofs.YtepdkmdcainddaaDoor
open Go Go.Itp
set_option maxRecDepth 100000
set_option maxHeartbeats 2000000
set_option linter.unusedSimpArgs false
set_option linter.unusedVariables false
theorem pread_bnd {N:Nat} (hN:N≤40) {s:List UInt8} {p:List Bool × Nat} (h:preadF N s=some p):p.1.length≤2560:=by
 unfold preadF at h
 split at h
 ·rename_i hc
  simp only[Option.some.injEq] at h
  subst h
  simp only
  rw[bitsP_len]
  exact Nat.mul_le_mul hc.2.2.1 hN
 ·cases h
theorem read_shape (w:World) (n:Nat) (s:List UInt8) (z:Int) (hl:s.length≤100000) (hes:(errO Tryd.prog w "strconv.ErrSyntax").isSome=true) (her:(errO Tryd.prog w "strconv.ErrRange").isSome=true):
  ∃ (a b e:Int) (B:List Bool),B.length≤5000∧VSpec (EN w (n+9)) 25 [strV s,.sc (.int .i64 z)] (.tup [gridV 3 a b B,.sc (.int .i64 e)]) ⟨[],0,0⟩∧VSpec (EN w (n+9)) 26 [strV s,.sc (.int .i64 z)] (.tup [gridV 3 a b B,.sc (.int .i64 e)]) ⟨[],0,0⟩:=by
 by_cases hz:z<1∨40<z
 ·exact ⟨0,0,2,[],by simp,readE_p w (n+8) s z hz,rreadE_p w (n+8) s z hz⟩
 obtain ⟨N,rfl⟩:∃ N:Nat,z=N:=⟨z.toNat,by omega⟩
 have h1:=read_p w n s N hl (by omega) (by omega) hes her
 have h2:=rread_p w (n+5) s N hl (by omega) (by omega)
 rw[← read_eq (by omega) (by omega) s] at h2
 cases h:preadF N s with
 |none=>rw[h] at h1 h2;exact ⟨0,0,12,[],by simp,h1,h2⟩
 |some p=>rw[h] at h1 h2;exact ⟨N,p.2,0,p.1,by have:=pread_bnd (by omega) h;omega,h1,h2⟩
theorem parse_shape (w:World) (n:Nat) (s:List UInt8) (hl:s.length≤100000):
  ∃ (q e:Int) (L:List (List Bool)),L.length≤1000∧(∀ k,k<L.length→L[k]!.length≤1000)∧VSpec (EN w (n+9)) 27 [strV s] (.tup [chainV 3 2 q L,.sc (.int .i64 e)]) ⟨[],0,0⟩∧VSpec (EN w (n+9)) 28 [strV s] (.tup [chainV 3 2 q L,.sc (.int .i64 e)]) ⟨[],0,0⟩:=by
 have h1:=parse_p w (n+4) s hl
 have h2:=rparse_p w (n+7) s hl
 cases h:parse18 s with
 |none=>rw[h] at h1 h2;exact ⟨0,12,[],by simp,fun k hk=>absurd hk (Nat.not_lt_zero _),h1,h2⟩
 |some p=>
  rw[h] at h1 h2
  have hv:validS p.1 p.2=true:=by
   unfold parse18 at h
   split at h
   ·cases h
   ·split at h
    ·rename_i hc
     simp only[Option.some.injEq] at h
     subst h
     exact hc.2
    ·cases h
  simp only[validS,decide_eq_true_eq] at hv
  exact ⟨p.1,0,p.2,by omega,fun k hk=>by have:=hv.2.2.2.2 k hk;omega,h1,h2⟩
theorem reads_g (w:World) (s:List UInt8) (z:Int) (hs:s.length≤9223372036854775807) (hes:(errO Tryd.prog w "strconv.ErrSyntax").isSome=true) (her:(errO Tryd.prog w "strconv.ErrRange").isSome=true) {C:Ctx} (hC:C.E=EN w 9) (h0:C.w0.nx=0):
  gC C c6.code [] (vargs 0 [strV s,.sc (.int .i64 z)]) ⟨[],0,0⟩ (RetV C c6.res (.sc (.bool true)) ⟨[],0,0⟩):=by
 have hsz:=mk_size s
 by_cases h1:4000<s.length
 ·repeat' (first|(simp (disch:=first|omega|assumption|exact bd (by with_unfolding_all rfl)|exact Or.inl rfl|exact Or.inl trivial|exact okL_map _ (fun _=>rfl) _|(simp only[VVlen]<;>omega)|fail) only[VV0,VV1,VV2,VV3,VV4,VV5,VV6,VV7,VV8,VV9,mkFnV,vargs,slotsL,opdsA,Nat.reduceEqDiff,Nat.reduceLT,Nat.reduceAdd,Nat.reduceBEq,Int.reduceAdd,Int.reduceSub,Int.reduceLT,Int.reduceLE,Int.reduceEq,Int.reduceNeg,↓reduceIte,reduceCtorEq,scL,scD,expand,List.replicate,c6])|apply gC_drawW|((first|apply gI_dec|apply gG_dec|apply gPG_dec|apply gI_var|apply gG_var|apply gPG_var)<;>intro _))
  all_goals try (exfalso;omega)
  exact weak_flat rfl h0 rfl
 obtain ⟨a,b,e,B,hB,r1,r2⟩:=read_shape w 0 s z (by omega) hes her
 obtain ⟨q,f,L,hL,hLr,p1,p2⟩:=parse_shape w 0 s (by omega)
 have sm:=same01_p w 8 3 3 a b B (by omega)
 have ss:=same17_p w 8 3 2 3 2 q L hL hLr
 repeat' (first|(simp (disch:=first|omega|assumption|exact bd (by with_unfolding_all rfl)|exact Or.inl rfl|exact Or.inl trivial|exact okL_map _ (fun _=>rfl) _|(simp only[VVlen]<;>omega)|fail) only[VV0,VV1,VV2,VV3,VV4,VV5,VV6,VV7,VV8,VV9,mkFnV,vargs,slotsL,opdsA,Nat.reduceEqDiff,Nat.reduceLT,Nat.reduceAdd,Nat.reduceBEq,Int.reduceAdd,Int.reduceSub,Int.reduceLT,Int.reduceLE,Int.reduceEq,Int.reduceNeg,↓reduceIte,reduceCtorEq,scL,scD,expand,List.replicate,c6])|apply gC_drawW|((first|apply gI_dec|apply gG_dec|apply gPG_dec|apply gI_var|apply gG_var|apply gPG_var)<;>intro _))
 all_goals try (exfalso;omega)
 refine callV_fin (by rw[hC];exact r1) rfl rfl (fun _=>rfl) ?_
 repeat' (first|(simp (disch:=first|omega|assumption|exact bd (by with_unfolding_all rfl)|exact Or.inl rfl|exact Or.inl trivial|exact okL_map _ (fun _=>rfl) _|(simp only[VVlen]<;>omega)|fail) only[VV0,VV1,VV2,VV3,VV4,VV5,VV6,VV7,VV8,VV9,mkFnV,vargs,slotsL,opdsA,Nat.reduceEqDiff,Nat.reduceLT,Nat.reduceAdd,Nat.reduceBEq,Int.reduceAdd,Int.reduceSub,Int.reduceLT,Int.reduceLE,Int.reduceEq,Int.reduceNeg,↓reduceIte,reduceCtorEq,scL,scD,expand,List.replicate])|apply gC_drawW|((first|apply gI_dec|apply gG_dec|apply gPG_dec|apply gI_var|apply gG_var|apply gPG_var)<;>intro _))
 refine callV_fin (by rw[hC];exact r2) rfl rfl (fun _=>rfl) ?_
 repeat' (first|(simp (disch:=first|omega|assumption|exact bd (by with_unfolding_all rfl)|exact Or.inl rfl|exact Or.inl trivial|exact okL_map _ (fun _=>rfl) _|(simp only[VVlen]<;>omega)|fail) only[VV0,VV1,VV2,VV3,VV4,VV5,VV6,VV7,VV8,VV9,mkFnV,vargs,slotsL,opdsA,Nat.reduceEqDiff,Nat.reduceLT,Nat.reduceAdd,Nat.reduceBEq,Int.reduceAdd,Int.reduceSub,Int.reduceLT,Int.reduceLE,Int.reduceEq,Int.reduceNeg,↓reduceIte,reduceCtorEq,scL,scD,expand,List.replicate])|apply gC_drawW|((first|apply gI_dec|apply gG_dec|apply gPG_dec|apply gI_var|apply gG_var|apply gPG_var)<;>intro _))
 refine callV_fin (by rw[hC];exact p1) rfl rfl (fun _=>rfl) ?_
 repeat' (first|(simp (disch:=first|omega|assumption|exact bd (by with_unfolding_all rfl)|exact Or.inl rfl|exact Or.inl trivial|exact okL_map _ (fun _=>rfl) _|(simp only[VVlen]<;>omega)|fail) only[VV0,VV1,VV2,VV3,VV4,VV5,VV6,VV7,VV8,VV9,mkFnV,vargs,slotsL,opdsA,Nat.reduceEqDiff,Nat.reduceLT,Nat.reduceAdd,Nat.reduceBEq,Int.reduceAdd,Int.reduceSub,Int.reduceLT,Int.reduceLE,Int.reduceEq,Int.reduceNeg,↓reduceIte,reduceCtorEq,scL,scD,expand,List.replicate])|apply gC_drawW|((first|apply gI_dec|apply gG_dec|apply gPG_dec|apply gI_var|apply gG_var|apply gPG_var)<;>intro _))
 refine callV_fin (by rw[hC];exact p2) rfl rfl (fun _=>rfl) ?_
 repeat' (first|(simp (disch:=first|omega|assumption|exact bd (by with_unfolding_all rfl)|exact Or.inl rfl|exact Or.inl trivial|exact okL_map _ (fun _=>rfl) _|(simp only[VVlen]<;>omega)|fail) only[VV0,VV1,VV2,VV3,VV4,VV5,VV6,VV7,VV8,VV9,mkFnV,vargs,slotsL,opdsA,Nat.reduceEqDiff,Nat.reduceLT,Nat.reduceAdd,Nat.reduceBEq,Int.reduceAdd,Int.reduceSub,Int.reduceLT,Int.reduceLE,Int.reduceEq,Int.reduceNeg,↓reduceIte,reduceCtorEq,scL,scD,expand,List.replicate])|apply gC_drawW|((first|apply gI_dec|apply gG_dec|apply gPG_dec|apply gI_var|apply gG_var|apply gPG_var)<;>intro _))
 refine callV_flat (by rw[hC];exact sm.flat rfl rfl) ?_
 repeat' (first|(simp (disch:=first|omega|assumption|exact bd (by with_unfolding_all rfl)|exact Or.inl rfl|exact Or.inl trivial|exact okL_map _ (fun _=>rfl) _|(simp only[VVlen]<;>omega)|fail) only[VV0,VV1,VV2,VV3,VV4,VV5,VV6,VV7,VV8,VV9,mkFnV,vargs,slotsL,opdsA,Nat.reduceEqDiff,Nat.reduceLT,Nat.reduceAdd,Nat.reduceBEq,Int.reduceAdd,Int.reduceSub,Int.reduceLT,Int.reduceLE,Int.reduceEq,Int.reduceNeg,↓reduceIte,reduceCtorEq,scL,scD,expand,List.replicate])|apply gC_drawW|((first|apply gI_dec|apply gG_dec|apply gPG_dec|apply gI_var|apply gG_var|apply gPG_var)<;>intro _))
 refine callV_flat (by rw[hC];exact ss.flat rfl rfl) ?_
 repeat' (first|(simp (disch:=first|omega|assumption|exact bd (by with_unfolding_all rfl)|exact Or.inl rfl|exact Or.inl trivial|exact okL_map _ (fun _=>rfl) _|(simp only[VVlen]<;>omega)|fail) only[VV0,VV1,VV2,VV3,VV4,VV5,VV6,VV7,VV8,VV9,mkFnV,vargs,slotsL,opdsA,Nat.reduceEqDiff,Nat.reduceLT,Nat.reduceAdd,Nat.reduceBEq,Int.reduceAdd,Int.reduceSub,Int.reduceLT,Int.reduceLE,Int.reduceEq,Int.reduceNeg,↓reduceIte,reduceCtorEq,scL,scD,expand,List.replicate])|apply gC_drawW|((first|apply gI_dec|apply gG_dec|apply gPG_dec|apply gI_var|apply gG_var|apply gPG_var)<;>intro _))
 exact weak_flat rfl h0 rfl
end Go.Proofs.YtepdkmdcainddaaDoor
namespace Go.Proofs.YtepdkmdcainddaaDoor
open Go Go.Itp
open Go.ChangeShapes Go.WideShapes Go.ChangeAt Go.RowKit
set_option linter.unusedVariables false
set_option maxRecDepth 100000
set_option maxHeartbeats 4000000
theorem reach_lt:reachBytes≤140737488351232:=by decide
def listed:List (String × DataW Unit):= [("math/bits.deBruijn32tab",Rows.laid_math_bits_deBruijn32tab),("math/bits.deBruijn64tab",Rows.laid_math_bits_deBruijn64tab),("internal/strconv.uint64pow10",Rows.laid_internal_strconv_uint64pow10),("unicode/utf8.acceptRanges",Rows.laid_unicode_utf8_acceptRanges),("strconv.ErrRange",Rows.laid_strconv_ErrRange),("strconv.ErrSyntax",Rows.laid_strconv_ErrSyntax),("unicode/utf8.first",Rows.laid_unicode_utf8_first)]
theorem listed_met (os:Os) (args:Array Value):laidMetH Tryd.prog listed ((World.laidAll Tryd.prog os listed).forCall (fun _ _=>0) ⟨#[],args,[]⟩).memory:=by
 rw[MakeChecks.laidMetH_plain _ _ _ (by kernel_rfl)]
 exact laidMet_laidAll _ (by kernel_rfl) (by kernel_rfl)
theorem listed_shaped (os:Os):(World.laidAll Tryd.prog os listed).Shaped Tryd.prog:=World.shaped_of_ZipB (by kernel_rfl) (by kernel_rfl)
theorem stand_ins {l:List TypeId} {t:TypeId} (hall:(l.all fun u=> !Tryd.prog.wantsStandIn u)=true) (h:t ∈ l):Tryd.prog.wantsStandIn t=false:=by
 have:=List.all_eq_true.1 hall t h
 simpa using this
theorem reads_lifted (os:Os) (started:os.Started) (H:Type) (enc:TypeId × Value→H):
  ReturnsInHanded {} Tryd.checked os 6 .any (fun w args=>(Rows.pegReadsSpec.pre enc Tryd.prog Tryd.f6 [] false w args∧laidMetH Tryd.prog listed w)∧sizedMet enc Tryd.prog Tryd.f6 (OpenSpec.ofChange Rows.pegReadsSpec) false w args)
   (Rows.pegReadsSpec.post enc Tryd.prog Tryd.f6 false true false false):=by
 refine returnsInHanded_of_change_and (C:=Tryd.checked) (X:=fun w _=>laidMetH Tryd.prog listed w) (fun _ _ _ hh h=>h.of_heap hh) own started (by kernel_rfl) Tryd.func6
  (ChangeSpec.witness_shaped (enc:=enc) (C:=Tryd.checked) (os:=os) (X:=fun w _=>laidMetH Tryd.prog listed w) false (World.laidAll Tryd.prog os listed) #[.string .empty,.int .i64 0] 8 (World.laidAll_os _ _ _) (listed_shaped os) (by kernel_rfl) (by kernel_rfl) (by kernel_rfl) (listed_met os _)) ?_
 intro W base args ds gs before hval0 hW _ hsz0 hL _
 have hval:∀ (j:Nat) t v,Tryd.f6.params[j]? =some t→args[j]? =some v→Value.okWide Tryd.prog W .any base t v:=hval0
 have hW':=hW
 obtain ⟨p,q,hA0,hV,rfl,hfz,hnd⟩:=hW
 have hA:DataW.TrodAll enc Tryd.prog W 0 (fun _=>true) true Tryd.f6.params.toList args.toList ds p:=hA0
 have hsz:(DataW.weightsEach Tryd.prog (Tryd.f6.params.toList++Rows.pegReadsSpec.plain.varTypes Tryd.prog) (ds++gs)).all (· ≤reachBytes)=true:=hsz0
 rw[Tryd.params6] at hA hval hsz
 obtain ⟨v0,vs0,d0,ds0,p0,q0,hargs,rfl,rfl,h0,r0⟩:=trodAll_cons hA
 obtain ⟨v1,vs1,d1,ds1,p1,q1,rfl,rfl,rfl,h1,r1⟩:=trodAll_cons r0
 obtain ⟨rfl,rfl,rfl⟩:=trodAll_nil r1
 obtain rfl:args=#[v0,v1]:=by cases args;simp_all
 have hr:=reach_lt
 obtain ⟨s0,rfl,hs0⟩:=open_str Tryd.underlying9 (hval 0 9 v0 rfl rfl) h0 (weights_at (j:=0) hsz rfl rfl)
 obtain ⟨x0,rfl⟩:∃ x:List UInt8,s0=⟨x.toArray⟩:=⟨s0.data.toList,by simp⟩
 rw[mk_size] at hs0
 obtain ⟨x1,rfl,hx1⟩:=open_num Tryd.underlying3 (hval 1 3 v1 rfl rfl) h1
 have hLm:laidMet Tryd.prog listed W:=by rw[← MakeChecks.laidMetH_plain _ _ _ (by kernel_rfl)];exact hL
 have htab:Tab W:=laid_tab hLm 2 rfl (g:=2) (t:=136) (e:=119) (k:= .u64) (m:=20) (by kernel_rfl) (by kernel_rfl) Tryd.underlying136 Tryd.underlying119 (by kernel_rfl) (by kernel_rfl) rfl
 have hesy:(errO Tryd.prog W "strconv.ErrSyntax").isSome=true:=laid_errO hLm 5 rfl (g:=0) (t:=72) (by kernel_rfl) (by kernel_rfl) Tryd.underlying72
 have herr:(errO Tryd.prog W "strconv.ErrRange").isSome=true:=laid_errO hLm 4 rfl (g:=1) (t:=72) (by kernel_rfl) (by kernel_rfl) Tryd.underlying72
 obtain ⟨s',hbody⟩:=law_v (old:=oldOf W) (rounds:=many) (fns:=fns) (prims:=PR W) (n:=9) (af:=c6) (xs:= [.sc (.string ⟨x0.toArray⟩),.sc (.int .i64 x1)]) (xsI:= [.string ⟨x0.toArray⟩,.int .i64 x1]) (x:= .bool true) (Nat.le_of_ble_eq_true rfl)
  (by simp only[VRepL];exact ⟨_,_,rfl,.mksc rfl,_,_,rfl,.mksc rfl,rfl⟩) fun C hC hn=>reads_g W x0 x1 (by omega) hesy herr hC hn
 have hfn:fns 6=some c6:=rfl
 have hrv:ids 0 (.bool true)= []:=rfl
 refine (law_of htab (f:=6) (af:=c6) hfn (xs:= [.string ⟨x0.toArray⟩,.int .i64 x1]) (by simp only[idsL_cons];rfl) _ hbody hrv).mono fun e W' ⟨he,hbe⟩=>?_
 exact ⟨_,he,law_post hW' rfl rfl (by kernel_rfl) (by kernel_rfl) Tryd.underlying4 hbe⟩
theorem reads_over:Rows.PegReadsSaid:=
 OpenClaim.holds_of_wide 6 Tryd.f6 rfl rfl rfl rfl rfl rfl rfl ⟨rfl,rfl,rfl,rfl,rfl⟩ rfl rfl rfl rfl rfl (by kernel_rfl) Tryd.func6 (by kernel_rfl)
  (of_decide_eq_true (by kernel_rfl)) (by unfold Func.isWrapper;first|(rw[if_pos (by decide+kernel)];kernel_rfl)|(rw[if_neg (by decide+kernel)];exact ⟨rfl,rfl⟩))
  (fun os started H enc _=>reads_lifted os started H enc)
theorem reads_holds:Rows.PegReadsCardSaid:=
 Claim7.holds_tied_plain_at .later [] [.data,.data,.data,.data,.sentinel,.sentinel,.pinned] true _ true
  reads_over (fun _ h=>by cases h) (by kernel_rfl) (fun _ h=>by cases h) pegReads_row_tie rfl ⟨rfl,rfl⟩ (by kernel_rfl) rfl
  (fun f fn hf hfn=>by
   obtain rfl:f=6:=Option.some.inj ((show Tryd.prog.funcNamed "raddle/raddlelaw18.PegReads"=some 6 by kernel_rfl).symm.trans hf)|>.symm
   obtain rfl:fn=Tryd.f6:=(Option.some.inj (Tryd.func6.symm.trans hfn)).symm
   exact ⟨by kernel_rfl,fun j t ht=>stand_ins (l:= [9,3]) (by kernel_rfl) (by rw[Tryd.params6] at ht;simpa using Array.mem_of_getElem? ht)⟩)
  (by kernel_rfl)
#print axioms reads_holds
end Go.Proofs.YtepdkmdcainddaaDoor
