/- Part of the proof of Rows.PegBackCardSaid: for every input the law returns true, with no condition.
   Texts: W18n, W18o, W18q, W18r, VT7, W18s, W18t, W18u, Q18a, Q18b, Q18c, Q18d, W18v, Q18e, Q18f, Q18g.
-/
import Derived.Test.YtepdkmdcainddaaDoorPart5
import Derived.Lib.Bytealg
import Derived.Test.YtepdkmdcainddaaDoorCards
import Derived.Test.YtepdkmdcainddaaDoorTie
import Derived.SizedLaws
import Derived.ChangeAt
import Derived.SevenTiedAt
import Derived.Stop.Joined
import Derived.Lay
namespace Go.Proofs.YtepdkmdcainddaaDoor
open Go Go.Itp
set_option maxRecDepth 100000
set_option maxHeartbeats 1000000
set_option linter.unusedSimpArgs false
set_option linter.unusedVariables false
theorem retOK_fin0 {n:Nat} {l:List D}:RetOK [] (.sl 3 n l):=retOK_nil rfl
theorem weak_fin0 {C:Ctx} {st:VSt} {v:V} {s n:Nat} {l:List D} (hs:snapV st.own v=some (.sl s n l)) (hrow:rowsB st.ro st.own (fzS v)=true) (hk:s ≠ 1∨n ≠ 0) (h0:C.w0.nx=0) (hro:st.ro=0):Weak C [(0,v)] st [(0,.sl 3 n l)] ⟨[],0,0⟩:=
 (weak_snap (t:=0) (v:=v) rfl hs hrow).trans ((weak_slot (t:=0) (v:= .sl s n l) (v':= .sl 3 n l) rfl (same_sl3 hk)).trans (weak_to [] 0 h0 hro rfl rfl rfl))
theorem count_words (c:UInt8):∀ (m:Nat) (l:List UInt8),l.length≤m→(words c l).length=Lib.countByte l c+1
 |m,l,hm=>by
  rcases byte_split c l with h|⟨a,r,rfl,h⟩
  ·rw[words_free h]
   unfold Lib.countByte
   rw[List.count_eq_zero_of_not_mem h]
   rfl
  ·rw[words_app r h]
   cases m with
   |zero=>simp at hm
   |succ m=>
    have ih:=count_words c m r (by simp at hm;omega)
    unfold Lib.countByte at ih ⊢
    rw[List.length_cons,ih,List.count_append,List.count_eq_zero_of_not_mem h,List.count_cons_self]
    omega
theorem vslc_hiR (e o k n c:Nat) (j:IntKind) (b:Int) (h0:0≤b) (h1:b≤c) (hc:c<1000000000000) (hc0:c ≠ 0):vslc e none (some (.int j b)) none (.ref o k n c)=some (.ref o k b.toNat c):=by
 have h2:Nat.blt c big=true:=by rw[Nat.blt_eq];unfold big;omega
 have h3:Nat.beq c 0=false:=nbf.2 hc0
 have h4:slcN n c none (some (.int j b)) none=some (0,b.toNat,c,false):=by
  simp only[slcN,knownCap,h2,if_true,bndNat]
  rw[if_pos ⟨h0,h1⟩]
  simp[h3,h2]
 simp only[vslc,h4,Option.map_some]
 simp
def fillS (dn:List (List UInt8)) (N:Nat):List D:=dn.map sD++List.replicate (N - dn.length) (sD [])
theorem fillS_len (dn:List (List UInt8)) (N:Nat) (h:dn.length≤N):(fillS dn N).length=N:=by simp[fillS];omega
theorem fillS_set (dn:List (List UInt8)) (x:List UInt8) (N:Nat) (h:dn.length<N):(fillS dn N).set dn.length (sD x)=fillS (dn++ [x]) N:=by
 unfold fillS
 rw[List.set_append_right _ _ (by simp),List.length_map,Nat.sub_self,show N - dn.length=(N - (dn.length+1))+1 by omega,List.replicate_succ,List.length_append]
 simp
theorem fillS_all (dn:List (List UInt8)) (N:Nat) (h:dn.length=N):fillS dn N=dn.map sD:=by simp[fillS,h]
section
variable (w:World) (n:Nat)
theorem countString_o (st:VSt) (l:List UInt8) (c:UInt8):VSpecO (EN w (n+1)) 88 st [strV l,.sc (.int .u8 c.toNat)] (.sc (.int .i64 (Lib.countByte l c))):=by
 refine prim_o (ys:= [.string ⟨l.toArray⟩,.int .u8 c.toNat]) (fun s=>?_) rfl
 refine orElse_right rfl (orElse_left ?_)
 show primA .count 0 [.string ⟨l.toArray⟩,.int .u8 c.toNat] s=_
 unfold primA
 simp only[Int.toNat_natCast]
 have e:c.toNat.toUInt8=c:=by simp
 rw[Lib.foldl_data,Lib.count_foldl,e]
 simp
theorem count_p (l:List UInt8) (c:UInt8) (hl:l.length≤1000000000):VSpec (EN w (n+2)) 72 [strV l,strV [c]] (.sc (.int .i64 (Lib.countByte l c))) ⟨[],0,0⟩:=by
 refine vspec_flat rfl rfl (fun _ _=>rfl) (Nat.le_of_ble_eq_true rfl) (oldVals w) rfl fun C hC h0=>?_
 have h1:(ByteArray.mk [c].toArray).size=1:=rfl
 have hb:idxStrV (strV [c]) (.sc (.int .i64 0))=some (.sc (.int .u8 c.toNat)):=by
  rw[idxStr_l _ _ _ (by omega) (by simp)]
  rfl
 repeat' (first|(simp (disch:=first|omega|assumption|exact bd (by with_unfolding_all rfl)|exact Or.inl rfl|exact Or.inl trivial|exact okL_map _ (fun _=>rfl) _|(simp only[VVlen]<;>omega)|fail) only[O1,VV0,VV1,VV2,VV3,VV4,VV5,VV6,VV7,VV8,VV9,mkFnV,vargs,slotsL,opdsA,Nat.reduceEqDiff,Nat.reduceLT,Nat.reduceAdd,Nat.reduceBEq,Int.reduceAdd,Int.reduceSub,Int.reduceLT,Int.reduceLE,Int.reduceEq,Int.reduceNeg,↓reduceIte,reduceCtorEq,scL,scD,expand,List.replicate,c72,h1,hb])|((first|apply gI_dec|apply gG_dec|apply gPG_dec|apply gI_var|apply gG_var|apply gPG_var)<;>intro _))
 refine callV_flat (by rw[hC];exact countString_o w n _ l c) ?_
 repeat' (first|(simp (disch:=first|omega|assumption|exact bd (by with_unfolding_all rfl)|exact Or.inl rfl|exact Or.inl trivial|exact okL_map _ (fun _=>rfl) _|(simp only[VVlen]<;>omega)|fail) only[O1,VV0,VV1,VV2,VV3,VV4,VV5,VV6,VV7,VV8,VV9,mkFnV,vargs,slotsL,opdsA,Nat.reduceEqDiff,Nat.reduceLT,Nat.reduceAdd,Nat.reduceBEq,Int.reduceAdd,Int.reduceSub,Int.reduceLT,Int.reduceLE,Int.reduceEq,Int.reduceNeg,↓reduceIte,reduceCtorEq,scL,scD,expand,List.replicate])|((first|apply gI_dec|apply gG_dec|apply gPG_dec|apply gI_var|apply gG_var|apply gPG_var)<;>intro _))
 exact weak_flat rfl h0 rfl
theorem gsplit_p (l:List UInt8) (c:UInt8) (hl:l.length≤1000000):VSpec (EN w (n+5)) 60 [strV l,strV [c],.sc (.int .i64 0),.sc (.int .i64 (-1))] (.sl 3 (words c l).length ((words c l).map sD)) ⟨[],0,0⟩:=by
 refine vspec_g rfl rfl (fun _ _=>rfl) (Nat.le_of_ble_eq_true rfl) (oldVals w) retOK_fin0 rfl fun C hC h0=>?_
 have h1:(ByteArray.mk [c].toArray).size=1:=rfl
 have hne:¬ (ByteArray.mk [c].toArray=ByteArray.mk #[]):=fun h=>by
  have:=congrArg (fun b:ByteArray=>b.data.toList) h
  simp at this
 have hsz:=mk_size l
 have hcw:=count_words c l.length l (Nat.le_refl _)
 have hwl:=(Go.Itp.words_len (c:=c) l.length (s:=l) (Nat.le_refl _)).1
 repeat' (first|(simp (disch:=first|omega|assumption|exact bd (by with_unfolding_all rfl)|exact Or.inl rfl|exact Or.inl trivial|exact okL_map _ (fun _=>rfl) _|(simp only[VVlen]<;>omega)|fail) only[O1,VV0,VV1,VV2,VV3,VV4,VV5,VV6,VV7,VV8,VV9,mkFnV,vargs,slotsL,opdsA,Nat.reduceEqDiff,Nat.reduceLT,Nat.reduceAdd,Nat.reduceBEq,Int.reduceAdd,Int.reduceSub,Int.reduceLT,Int.reduceLE,Int.reduceEq,Int.reduceNeg,↓reduceIte,reduceCtorEq,scL,scD,expand,List.replicate,c60,hne])|((first|apply gI_dec|apply gG_dec|apply gPG_dec|apply gI_var|apply gG_var|apply gPG_var)<;>intro _))
 refine callV_flat ((count_p w (n+2) l c (by omega)).of hC rfl _ rfl) ?_
 generalize hN:Lib.countByte l c=N at*
 have hmin:min ((N:Int)+1) (((ByteArray.mk l.toArray).size:Int)+1)=((N+1:Nat):Int):=by rw[hsz];omega
 have hNs:((N+1:Nat):Int) - 1=(N:Int):=by omega
 have hN1:(((N+1:Nat):Int)).toNat=N+1:=by omega
 have hr0:D.sc (Value.string ⟨#[]⟩)::List.replicate N (D.sc (Value.string ⟨#[]⟩))=fillS [] (N+1):=by simp[fillS,sD,List.replicate_succ]
 repeat' (first|(simp (disch:=first|omega|assumption|exact bd (by with_unfolding_all rfl)|exact Or.inl rfl|exact Or.inl trivial|exact okL_map _ (fun _=>rfl) _|(simp only[VVlen]<;>omega)|fail) only[O1,VV0,VV1,VV2,VV3,VV4,VV5,VV6,VV7,VV8,VV9,mkFnV,vargs,slotsL,opdsA,Nat.reduceEqDiff,Nat.reduceLT,Nat.reduceAdd,Nat.reduceBEq,Int.reduceAdd,Int.reduceSub,Int.reduceLT,Int.reduceLE,Int.reduceEq,Int.reduceNeg,↓reduceIte,reduceCtorEq,scL,scD,expand,List.replicate,mmV_min,hmin,hN1,hNs])|((first|apply gI_dec|apply gG_dec|apply gPG_dec|apply gI_var|apply gG_var|apply gPG_var)<;>intro _))
 rw[hr0]
 refine g_while (fun m fr st=>∃ (dn:List (List UInt8)) (r:List UInt8),m=r.length∧r.length≤1000000∧words c l=dn++words c r∧fr= [(0,strV r),(1,strV [c]),(2,.sc (.int .i64 0)),(3,.sc (.int .i64 N)),(9,.ref 0 0 (N+1) (N+1)),(10,.sc (.int .i64 dn.length))]∧st=⟨[(0,.row 9 1 false false (fillS dn (N+1)))],1,0⟩) l.length ?_ ⟨_,_,.refl _ _,[],l,rfl,hl,rfl,?_,rfl⟩ ?_
 ·rw[hC,callP_rounds];unfold many;omega
 ·simp
 rintro m fr st ⟨dn,r,rfl,hrl,hw,rfl,rfl⟩
 have hdl:dn.length+(words c r).length=N+1:=by rw[← hcw,hw,List.length_append]
 have hfl:=fillS_len dn (N+1) (by omega)
 have hfs:=fillS_set dn r (N+1) (by have:=List.length_pos_iff.2 (words_ne c r);omega)
 rcases byte_split c r with hf|⟨x,r',rfl,hf⟩
 ·have hwr:=words_free hf
  rw[hwr] at hw hdl
  have hd:dn.length=N:=by simpa using hdl
  have hcw':(dn++ [r]).length=N+1:=by simp[hd]
  repeat' (first|(simp (disch:=first|omega|assumption|exact bd (by with_unfolding_all rfl)|exact Or.inl rfl|exact Or.inl trivial|exact okL_map _ (fun _=>rfl) _|(simp only[VVlen]<;>omega)|fail) only[O1,VV0,VV1,VV2,VV3,VV4,VV5,VV6,VV7,VV8,VV9,mkFnV,vargs,slotsL,opdsA,Nat.reduceEqDiff,Nat.reduceLT,Nat.reduceAdd,Nat.reduceBEq,Int.reduceAdd,Int.reduceSub,Int.reduceLT,Int.reduceLE,Int.reduceEq,Int.reduceNeg,↓reduceIte,reduceCtorEq,scL,scD,expand,List.replicate,c60l0])|((first|apply gI_dec|apply gG_dec|apply gPG_dec|apply gI_var|apply gG_var|apply gPG_var)<;>intro _))
  all_goals try (exfalso;omega)
  have hv:=vslc_hiR 1 0 0 (N+1) (N+1) .i64 ((dn.length:Int)+1) (by omega) (by omega) (by omega) (by omega)
  have hvN:((dn.length:Int)+1).toNat=N+1:=by omega
  rw[hvN] at hv
  repeat' (first|(simp (disch:=first|omega|assumption|exact bd (by with_unfolding_all rfl)|exact Or.inl rfl|exact Or.inl trivial|exact okL_map _ (fun _=>rfl) _|(simp only[VVlen]<;>omega)|fail) only[O1,VV0,VV1,VV2,VV3,VV4,VV5,VV6,VV7,VV8,VV9,mkFnV,vargs,slotsL,opdsA,Nat.reduceEqDiff,Nat.reduceLT,Nat.reduceAdd,Nat.reduceBEq,Int.reduceAdd,Int.reduceSub,Int.reduceLT,Int.reduceLE,Int.reduceEq,Int.reduceNeg,↓reduceIte,reduceCtorEq,scL,scD,expand,List.replicate,hv])|((first|apply gI_dec|apply gG_dec|apply gPG_dec|apply gI_var|apply gG_var|apply gPG_var)<;>intro _))
  refine weak_fin0 (s:=0) ?_ rfl (.inl (by decide)) h0 rfl
  rw[show D.sc (Value.string ⟨r.toArray⟩)=sD r from rfl,hfs,fillS_all _ _ (by simp;omega),hw,hcw']
  exact snap_refD rfl (by simp[hd])
 ·have hi:=idxB_app r' hf
  have hwr:=words_app r' hf
  have hlen:(x++c::r').length=x.length+r'.length+1:=by simp;omega
  have hwp:=List.length_pos_iff.2 (words_ne c r')
  have hdN:dn.length<N:=by rw[hwr] at hdl;simp at hdl;omega
  have e1:=slcS_hi (x++c::r') .i64 x.length (by omega) (by rw[hlen];omega)
  have e2:=slcS_lo (x++c::r') .i64 ((x.length:Int)+1) (by omega) (by rw[hlen];omega)
  rw[Int.toNat_natCast,List.take_left] at e1
  rw[show ((x.length:Int)+1).toNat=x.length+1 by omega,show (x++c::r').drop (x.length+1)=r' by rw[← List.drop_drop];simp] at e2
  have h1i:((1:Nat):Int)=1:=rfl
  have hfx:=fillS_set dn x (N+1) (by omega)
  repeat' (first|(simp (disch:=first|omega|assumption|exact bd (by with_unfolding_all rfl)|exact Or.inl rfl|exact Or.inl trivial|exact okL_map _ (fun _=>rfl) _|(simp only[VVlen]<;>omega)|fail) only[O1,VV0,VV1,VV2,VV3,VV4,VV5,VV6,VV7,VV8,VV9,mkFnV,vargs,slotsL,opdsA,Nat.reduceEqDiff,Nat.reduceLT,Nat.reduceAdd,Nat.reduceBEq,Int.reduceAdd,Int.reduceSub,Int.reduceLT,Int.reduceLE,Int.reduceEq,Int.reduceNeg,↓reduceIte,reduceCtorEq,scL,scD,expand,List.replicate,c60l0])|((first|apply gI_dec|apply gG_dec|apply gPG_dec|apply gI_var|apply gG_var|apply gPG_var)<;>intro _))
  refine callV_flat ((index_p w n _ c (by omega)).of hC rfl _ rfl) ?_
  rw[hi]
  repeat' (first|(simp (disch:=first|omega|assumption|exact bd (by with_unfolding_all rfl)|exact Or.inl rfl|exact Or.inl trivial|exact okL_map _ (fun _=>rfl) _|(simp only[VVlen]<;>omega)|fail) only[O1,VV0,VV1,VV2,VV3,VV4,VV5,VV6,VV7,VV8,VV9,mkFnV,vargs,slotsL,opdsA,Nat.reduceEqDiff,Nat.reduceLT,Nat.reduceAdd,Nat.reduceBEq,Int.reduceAdd,Int.reduceSub,Int.reduceLT,Int.reduceLE,Int.reduceEq,Int.reduceNeg,↓reduceIte,reduceCtorEq,scL,scD,expand,List.replicate,h1,h1i,e1,e2,Int.add_zero])|((first|apply gI_dec|apply gG_dec|apply gPG_dec|apply gI_var|apply gG_var|apply gPG_var)<;>intro _))
  all_goals try (exfalso;omega)
  refine ⟨_,_,_,?_,.refl _ _,dn++ [x],r',rfl,by omega,?_,?_,?_⟩
  ·rw[hlen];omega
  ·rw[hw,hwr];simp
  ·simp
  ·rw[← hfx];rfl
theorem split_p (l:List UInt8) (c:UInt8) (hl:l.length≤1000000):VSpec (EN w (n+6)) 48 [strV l,strV [c]] (.sl 3 (words c l).length ((words c l).map sD)) ⟨[],0,0⟩:=by
 refine vspec_g rfl rfl (fun _ _=>rfl) (Nat.le_of_ble_eq_true rfl) (oldVals w) retOK_fin0 rfl fun C hC h0=>?_
 repeat' (first|(simp (disch:=first|omega|assumption|exact bd (by with_unfolding_all rfl)|exact Or.inl rfl|exact Or.inl trivial|exact okL_map _ (fun _=>rfl) _|(simp only[VVlen]<;>omega)|fail) only[O1,VV0,VV1,VV2,VV3,VV4,VV5,VV6,VV7,VV8,VV9,mkFnV,vargs,slotsL,opdsA,Nat.reduceEqDiff,Nat.reduceLT,Nat.reduceAdd,Nat.reduceBEq,Int.reduceAdd,Int.reduceSub,Int.reduceLT,Int.reduceLE,Int.reduceEq,Int.reduceNeg,↓reduceIte,reduceCtorEq,scL,scD,expand,List.replicate,c48])|((first|apply gI_dec|apply gG_dec|apply gPG_dec|apply gI_var|apply gG_var|apply gPG_var)<;>intro _))
 refine callV_fin (by rw[hC];exact gsplit_p w n l c hl) rfl rfl (fun _=>rfl) ?_
 repeat' (first|(simp (disch:=first|omega|assumption|exact bd (by with_unfolding_all rfl)|exact Or.inl rfl|exact Or.inl trivial|exact okL_map _ (fun _=>rfl) _|(simp only[VVlen]<;>omega)|fail) only[O1,VV0,VV1,VV2,VV3,VV4,VV5,VV6,VV7,VV8,VV9,mkFnV,vargs,slotsL,opdsA,Nat.reduceEqDiff,Nat.reduceLT,Nat.reduceAdd,Nat.reduceBEq,Int.reduceAdd,Int.reduceSub,Int.reduceLT,Int.reduceLE,Int.reduceEq,Int.reduceNeg,↓reduceIte,reduceCtorEq,scL,scD,expand,List.replicate])|((first|apply gI_dec|apply gG_dec|apply gPG_dec|apply gI_var|apply gG_var|apply gPG_var)<;>intro _))
 exact weak_to [] 0 h0 rfl rfl rfl rfl
def cutSuf (c:UInt8) (l:List UInt8):List UInt8 × Bool:=if l.getLast? =some c then (l.dropLast,true) else (l,false)
theorem hasSuf_p (l:List UInt8) (c:UInt8) (hl:l.length≤1000000):VSpec (EN w (n+1)) 70 [strV l,strV [c]] (.sc (.bool (decide (l.getLast? =some c)))) ⟨[],0,0⟩:=by
 refine vspec_flat rfl rfl (fun _ _=>rfl) (Nat.le_of_ble_eq_true rfl) (oldVals w) rfl fun C hC h0=>?_
 have h1:(ByteArray.mk [c].toArray).size=1:=rfl
 have h1i:((1:Nat):Int)=1:=rfl
 have hsz:=mk_size l
 by_cases hn:l= []
 ·subst hn
  have h2:(ByteArray.mk ([]:List UInt8).toArray).size=0:=rfl
  repeat' (first|(simp (disch:=first|omega|assumption|exact bd (by with_unfolding_all rfl)|exact Or.inl rfl|exact Or.inl trivial|exact okL_map _ (fun _=>rfl) _|(simp only[VVlen]<;>omega)|fail) only[O1,VV0,VV1,VV2,VV3,VV4,VV5,VV6,VV7,VV8,VV9,mkFnV,vargs,slotsL,opdsA,Nat.reduceEqDiff,Nat.reduceLT,Nat.reduceAdd,Nat.reduceBEq,Int.reduceAdd,Int.reduceSub,Int.reduceLT,Int.reduceLE,Int.reduceEq,Int.reduceNeg,↓reduceIte,reduceCtorEq,scL,scD,expand,List.replicate,c70,h1,h1i,h2])|((first|apply gI_dec|apply gG_dec|apply gPG_dec|apply gI_var|apply gG_var|apply gPG_var)<;>intro _))
  all_goals try (exfalso;omega)
  exact weak_flat rfl h0 rfl
 ·obtain ⟨S,b,rfl⟩:∃ S p,l=S++ [p]:=⟨l.dropLast,l.getLast hn,(List.dropLast_concat_getLast hn).symm⟩
  have hsl:(S++ [b]).length=S.length+1:=by simp
  have e2:=slcS_lo (S++ [b]) .i64 (S.length:Int) (by omega) (by rw[hsl];omega)
  rw[Int.toNat_natCast,List.drop_left] at e2
  have e3:(((ByteArray.mk (S++ [b]).toArray).size:Nat):Int) - 1=(S.length:Int):=by rw[hsz,hsl];omega
  have e4:((S++ [b]).getLast? =some c)=([b]= [c]):=by simp
  rw[show decide ((S++ [b]).getLast? =some c)=decide ([b]= [c]) by congr 1]
  repeat' (first|(simp (disch:=first|omega|assumption|exact bd (by with_unfolding_all rfl)|exact Or.inl rfl|exact Or.inl trivial|exact okL_map _ (fun _=>rfl) _|(simp only[VVlen]<;>omega)|fail) only[O1,VV0,VV1,VV2,VV3,VV4,VV5,VV6,VV7,VV8,VV9,mkFnV,vargs,slotsL,opdsA,Nat.reduceEqDiff,Nat.reduceLT,Nat.reduceAdd,Nat.reduceBEq,Int.reduceAdd,Int.reduceSub,Int.reduceLT,Int.reduceLE,Int.reduceEq,Int.reduceNeg,↓reduceIte,reduceCtorEq,scL,scD,expand,List.replicate,c70,h1,h1i,e3,e2,mk_inj])|((first|apply gI_dec|apply gG_dec|apply gPG_dec|apply gI_var|apply gG_var|apply gPG_var)<;>intro _))
  all_goals try (exfalso;omega)
  exact weak_flat rfl h0 rfl
theorem cutSuf0_p (l:List UInt8) (c:UInt8) (hl:l.length≤1000000):VSpec (EN w (n+2)) 59 [strV l,strV [c]] (.tup [strV (cutSuf c l).1,.sc (.bool (cutSuf c l).2)]) ⟨[],0,0⟩:=by
 refine vspec_flat rfl rfl (fun _ _=>rfl) (Nat.le_of_ble_eq_true rfl) (oldVals w) rfl fun C hC h0=>?_
 have h1:(ByteArray.mk [c].toArray).size=1:=rfl
 have h1i:((1:Nat):Int)=1:=rfl
 have hsz:=mk_size l
 have hs:=(hasSuf_p w n l c hl).of hC rfl
 unfold cutSuf
 by_cases hg:l.getLast? =some c
 ·rw[decide_eq_true hg] at hs
  rw[if_pos hg]
  have hn:l ≠ []:=fun e=>by rw[e] at hg;cases hg
  have hp:=List.length_pos_iff.2 hn
  have e2:=slcS_hi l .i64 ((l.length:Int) - 1) (by omega) (by omega)
  rw[show ((l.length:Int) - 1).toNat=l.length - 1 by omega,← List.dropLast_eq_take] at e2
  have e3:(((ByteArray.mk l.toArray).size:Nat):Int) - 1=(l.length:Int) - 1:=by rw[hsz]
  repeat' (first|(simp (disch:=first|omega|assumption|exact bd (by with_unfolding_all rfl)|exact Or.inl rfl|exact Or.inl trivial|exact okL_map _ (fun _=>rfl) _|(simp only[VVlen]<;>omega)|fail) only[O1,VV0,VV1,VV2,VV3,VV4,VV5,VV6,VV7,VV8,VV9,mkFnV,vargs,slotsL,opdsA,Nat.reduceEqDiff,Nat.reduceLT,Nat.reduceAdd,Nat.reduceBEq,Int.reduceAdd,Int.reduceSub,Int.reduceLT,Int.reduceLE,Int.reduceEq,Int.reduceNeg,↓reduceIte,reduceCtorEq,scL,scD,expand,List.replicate,c59])|((first|apply gI_dec|apply gG_dec|apply gPG_dec|apply gI_var|apply gG_var|apply gPG_var)<;>intro _))
  refine callV_flat (hs _ rfl) ?_
  repeat' (first|(simp (disch:=first|omega|assumption|exact bd (by with_unfolding_all rfl)|exact Or.inl rfl|exact Or.inl trivial|exact okL_map _ (fun _=>rfl) _|(simp only[VVlen]<;>omega)|fail) only[O1,VV0,VV1,VV2,VV3,VV4,VV5,VV6,VV7,VV8,VV9,mkFnV,vargs,slotsL,opdsA,Nat.reduceEqDiff,Nat.reduceLT,Nat.reduceAdd,Nat.reduceBEq,Int.reduceAdd,Int.reduceSub,Int.reduceLT,Int.reduceLE,Int.reduceEq,Int.reduceNeg,↓reduceIte,reduceCtorEq,scL,scD,expand,List.replicate,h1,h1i,e3,e2])|((first|apply gI_dec|apply gG_dec|apply gPG_dec|apply gI_var|apply gG_var|apply gPG_var)<;>intro _))
  exact weak_flat rfl h0 rfl
 ·rw[decide_eq_false hg] at hs
  rw[if_neg hg]
  repeat' (first|(simp (disch:=first|omega|assumption|exact bd (by with_unfolding_all rfl)|exact Or.inl rfl|exact Or.inl trivial|exact okL_map _ (fun _=>rfl) _|(simp only[VVlen]<;>omega)|fail) only[O1,VV0,VV1,VV2,VV3,VV4,VV5,VV6,VV7,VV8,VV9,mkFnV,vargs,slotsL,opdsA,Nat.reduceEqDiff,Nat.reduceLT,Nat.reduceAdd,Nat.reduceBEq,Int.reduceAdd,Int.reduceSub,Int.reduceLT,Int.reduceLE,Int.reduceEq,Int.reduceNeg,↓reduceIte,reduceCtorEq,scL,scD,expand,List.replicate,c59])|((first|apply gI_dec|apply gG_dec|apply gPG_dec|apply gI_var|apply gG_var|apply gPG_var)<;>intro _))
  refine callV_flat (hs _ rfl) ?_
  repeat' (first|(simp (disch:=first|omega|assumption|exact bd (by with_unfolding_all rfl)|exact Or.inl rfl|exact Or.inl trivial|exact okL_map _ (fun _=>rfl) _|(simp only[VVlen]<;>omega)|fail) only[O1,VV0,VV1,VV2,VV3,VV4,VV5,VV6,VV7,VV8,VV9,mkFnV,vargs,slotsL,opdsA,Nat.reduceEqDiff,Nat.reduceLT,Nat.reduceAdd,Nat.reduceBEq,Int.reduceAdd,Int.reduceSub,Int.reduceLT,Int.reduceLE,Int.reduceEq,Int.reduceNeg,↓reduceIte,reduceCtorEq,scL,scD,expand,List.replicate])|((first|apply gI_dec|apply gG_dec|apply gPG_dec|apply gI_var|apply gG_var|apply gPG_var)<;>intro _))
  exact weak_flat rfl h0 rfl
theorem cutSuf_p (l:List UInt8) (c:UInt8) (hl:l.length≤1000000):VSpec (EN w (n+3)) 47 [strV l,strV [c]] (.tup [strV (cutSuf c l).1,.sc (.bool (cutSuf c l).2)]) ⟨[],0,0⟩:=by
 refine vspec_flat rfl rfl (fun _ _=>rfl) (Nat.le_of_ble_eq_true rfl) (oldVals w) rfl fun C hC h0=>?_
 repeat' (first|(simp (disch:=first|omega|assumption|exact bd (by with_unfolding_all rfl)|exact Or.inl rfl|exact Or.inl trivial|exact okL_map _ (fun _=>rfl) _|(simp only[VVlen]<;>omega)|fail) only[O1,VV0,VV1,VV2,VV3,VV4,VV5,VV6,VV7,VV8,VV9,mkFnV,vargs,slotsL,opdsA,Nat.reduceEqDiff,Nat.reduceLT,Nat.reduceAdd,Nat.reduceBEq,Int.reduceAdd,Int.reduceSub,Int.reduceLT,Int.reduceLE,Int.reduceEq,Int.reduceNeg,↓reduceIte,reduceCtorEq,scL,scD,expand,List.replicate,c47])|((first|apply gI_dec|apply gG_dec|apply gPG_dec|apply gI_var|apply gG_var|apply gPG_var)<;>intro _))
 refine callV_flat ((cutSuf0_p w n l c hl).of hC rfl _ rfl) ?_
 repeat' (first|(simp (disch:=first|omega|assumption|exact bd (by with_unfolding_all rfl)|exact Or.inl rfl|exact Or.inl trivial|exact okL_map _ (fun _=>rfl) _|(simp only[VVlen]<;>omega)|fail) only[O1,VV0,VV1,VV2,VV3,VV4,VV5,VV6,VV7,VV8,VV9,mkFnV,vargs,slotsL,opdsA,Nat.reduceEqDiff,Nat.reduceLT,Nat.reduceAdd,Nat.reduceBEq,Int.reduceAdd,Int.reduceSub,Int.reduceLT,Int.reduceLE,Int.reduceEq,Int.reduceNeg,↓reduceIte,reduceCtorEq,scL,scD,expand,List.replicate])|((first|apply gI_dec|apply gG_dec|apply gPG_dec|apply gI_var|apply gG_var|apply gPG_var)<;>intro _))
 exact weak_flat rfl h0 rfl
end
end Go.Proofs.YtepdkmdcainddaaDoor
namespace Go.Proofs.YtepdkmdcainddaaDoor
open Go Go.Itp
set_option maxRecDepth 100000
set_option maxHeartbeats 1000000
set_option linter.unusedSimpArgs false
set_option linter.unusedVariables false
section
variable (w:World) (n:Nat)
end
end Go.Proofs.YtepdkmdcainddaaDoor
namespace Go.Proofs.YtepdkmdcainddaaDoor
open Go Go.Itp
set_option maxRecDepth 100000
set_option maxHeartbeats 2000000
set_option linter.unusedSimpArgs false
set_option linter.unusedVariables false
theorem weak_finT3 {C:Ctx} {st:VSt} {a b x:Value} {v:V} {s n:Nat} {l:List D} (hs:snapV st.own v=some (.sl s n l)) (hrow:rowsB st.ro st.own (fzS v)=true) (hk:s ≠ 1∨n ≠ 0) (h0:C.w0.nx=0) (hro:st.ro=0):Weak C [(0,.tup [.agg [.sc a,.sc b,v],.sc x])] st [(0,.tup [.agg [.sc a,.sc b,.sl 3 n l],.sc x])] ⟨[],0,0⟩:=by
 have e1:fzS (.tup [.agg [.sc a,.sc b,v],.sc x])=fzS v:=by simp[fzS,fzSL]
 have e2:snapV st.own (.tup [.agg [.sc a,.sc b,v],.sc x])=some (.tup [.agg [.sc a,.sc b,.sl s n l],.sc x]):=by simp[snapV,snapL,hs]
 refine (weak_snap (t:=0) (v:= .tup [.agg [.sc a,.sc b,v],.sc x]) rfl e2 (by rw[e1];exact hrow)).trans ?_
 refine (weak_slot (t:=0) (v:= .tup [.agg [.sc a,.sc b,.sl s n l],.sc x]) (v':= .tup [.agg [.sc a,.sc b,.sl 3 n l],.sc x]) rfl (same_tup2 (same_agg3 (same_sl3 hk)))).trans ?_
 exact weak_to [] 0 h0 hro rfl rfl rfl
theorem weak_finT3Nil {C:Ctx} {st:VSt} {a b x:Value} (h0:C.w0.nx=0) (hro:st.ro=0):Weak C [(0,.tup [.agg [.sc a,.sc b,.sc (.slice none 0 0)],.sc x])] st [(0,.tup [.agg [.sc a,.sc b,.sl 3 0 []],.sc x])] ⟨[],0,0⟩:=
 (weak_slot (t:=0) (v:= .tup [.agg [.sc a,.sc b,.sc (.slice none 0 0)],.sc x]) (v':= .tup [.agg [.sc a,.sc b,.sl 3 0 []],.sc x]) rfl (same_tup2 (same_agg3 same_nil3))).trans (weak_to [] 0 h0 hro rfl rfl rfl)
theorem retOK_finT3 {n:Nat} {l:List D} {a b x:Value}:RetOK [] (.tup [.agg [.sc a,.sc b,.sl 3 n l],.sc x]):=retOK_nil (by simp only[Cl,ClL,and_true];exact ⟨trivial,trivial,rfl⟩)
def readV (N:Nat):Option (List Bool × Nat)→V
 |some p=> .tup [gridV 3 N p.2 p.1,.sc (.int .i64 0)]
 |none=> .tup [gridV 3 0 0 [],.sc (.int .i64 12)]
theorem retOK_read (N:Nat) (r:Option (List Bool × Nat)):RetOK [] (readV N r):=by
 cases r<;>exact retOK_finT3
section
variable (w:World) (n:Nat)
end
end Go.Proofs.YtepdkmdcainddaaDoor
namespace Go.Proofs.YtepdkmdcainddaaDoor
open Go Go.Itp
set_option maxRecDepth 100000
set_option maxHeartbeats 2000000
set_option linter.unusedSimpArgs false
set_option linter.unusedVariables false
abbrev baseR (N H:Nat) (B R:List Bool) (r:List UInt8):VHp:=
 [(8,.box 3 1 [.sc (.int .i64 0)]),(7,sBox [32]),(6,sBox r),(5,.box 22 1 [.ref 4 0 N N]),(4,.row 4 1 false false (R.map bD)),(3,.gro 4 1 false (B.map bD)),(2,.box 24 1 [.sc (.int .i64 N),.sc (.int .i64 H),.gr 2 3 B.length]),(1,.box 24 1 [.sc (.int .i64 0),.sc (.int .i64 0),.sc (.slice none 0 0)]),(0,.box 3 1 [.sc (.int .i64 N)])]
section
variable (w:World) (n:Nat)
theorem atoi_any {C:Ctx} {st:VSt} {Q:V→VSt→Prop} (hC:C.E=EN w (n+1)) (l:List UInt8) (hl:l.length≤1000000) (hes:(errO Tryd.prog w "strconv.ErrSyntax").isSome=true) (her:(errO Tryd.prog w "strconv.ErrRange").isSome=true)
  (h1:∀ v,numA l=some v→Q (.tup [.sc (.int .i64 v),.sc .nilIface]) st)
  (h2:numA l=none→∀ (k:Int) (cs:List V),Q (.tup [.sc (.int .i64 k),.ifc 114 (.ptr st.next 0)]) ⟨(st.next,.box 132 1 cs)::st.own,st.next+1,st.ro⟩):CallV C 50 [strV l] st Q:=by
 have hs:(ByteArray.mk l.toArray).size≤281474976710656:=by rw[mk_size];omega
 cases hu:numA l with
 |some v=>exact callV_flat (by rw[hC];exact atoi_s w n _ ⟨l.toArray⟩ v hs (numA_ok hu)) (h1 v hu)
 |none=>
  obtain ⟨k,cs,sp⟩:=atoi_f w n ⟨l.toArray⟩ hs hes her (numA_none hu)
  refine callV_of (by rw[hC];exact sp) rfl rfl rfl ?_
  obtain ⟨H,nx,ro⟩:=st
  have:=h2 hu k (vshL nx (cs.map V.sc))
  simp only[vsh,vshL,shH,shO,fzSL,fzS,frozA_none,Nat.add_zero,Nat.zero_add,List.nil_append,List.cons_append] at this ⊢
  exact this
theorem rd_round {C:Ctx} (hC:C.E=EN w (n+7)) (hes:(errO Tryd.prog w "strconv.ErrSyntax").isSome=true) (her:(errO Tryd.prog w "strconv.ErrRange").isSome=true) (x r:List UInt8) (hx:x.length≤100000) (N H:Nat) (hN:N≤40) (B R:List Bool) (hR:R.length=N) (s:List UInt8) (v42:V) (L k:Nat) (Q2:V→VSt→Prop)
  (hgo:Q2 (.sc (.bool true)) ⟨(9,recO 0)::baseR N H B (setA N R x) r,10,0⟩):
  RoundV C.E c25a0 c25b0 [(0,strV s),(3,.ptr 0 0),(4,.ptr 1 0),(5,.sc (.int .i64 0)),(6,.ptr 2 0),(12,.ptr 5 0),(42,v42),(43,.sc (.int .i64 L)),(44,.sc (.int .i64 k))] [52] 9 [strV x] ⟨(9,recO 0)::baseR N H B R r,10,0⟩ Q2:=by
 have hRm:(R.map bD).length=N:=by rw[List.length_map,hR]
 refine ⟨Nat.zero_le _,rfl,Nat.lt_succ_self 9,_,rfl,fun C4 h4c h4n=>?_⟩
 have hcs:C4.E=EN w (n+6+1):=h4c.trans hC
 repeat' (first|(simp (disch:=first|omega|assumption|exact bd (by with_unfolding_all rfl)|exact Or.inl rfl|exact Or.inl trivial|exact okL_map _ (fun _=>rfl) _|(simp only[VVlen]<;>omega)|fail) only[O1,VV0,VV1,VV2,VV3,VV4,VV5,VV6,VV7,VV8,VV9,mkFnV,vargs,slotsL,opdsA,Nat.reduceEqDiff,Nat.reduceLT,Nat.reduceAdd,Nat.reduceBEq,Int.reduceAdd,Int.reduceSub,Int.reduceLT,Int.reduceLE,Int.reduceEq,Int.reduceNeg,↓reduceIte,reduceCtorEq,scL,scD,expand,List.replicate,c25a0,eqIf_ifc,eqIf_nil,eqIfA_nn])|((first|apply gI_dec|apply gG_dec|apply gPG_dec|apply gI_var|apply gG_var|apply gPG_var)<;>intro _))
 refine ⟨trivial,Nat.zero_le _,trivial,?_⟩
 repeat' (first|(simp (disch:=first|omega|assumption|exact bd (by with_unfolding_all rfl)|exact Or.inl rfl|exact Or.inl trivial|exact okL_map _ (fun _=>rfl) _|(simp only[VVlen]<;>omega)|fail) only[O1,VV0,VV1,VV2,VV3,VV4,VV5,VV6,VV7,VV8,VV9,mkFnV,vargs,slotsL,opdsA,Nat.reduceEqDiff,Nat.reduceLT,Nat.reduceAdd,Nat.reduceBEq,Int.reduceAdd,Int.reduceSub,Int.reduceLT,Int.reduceLE,Int.reduceEq,Int.reduceNeg,↓reduceIte,reduceCtorEq,scL,scD,expand,List.replicate,c25b0,eqIf_ifc,eqIf_nil,eqIfA_nn])|((first|apply gI_dec|apply gG_dec|apply gPG_dec|apply gI_var|apply gG_var|apply gPG_var)<;>intro _))
 have hset:setA N R x=match numA x with|some v=>if 1≤v∧v≤(N:Int) then R.set (v.toNat - 1) true else R|none=>R:=rfl
 refine atoi_any w (n+6) hcs x (by omega) hes her (fun v hv=>?_) (fun hv kv cv=>?_)
 ·rw[hv] at hset
  by_cases hvr:1≤v∧v≤(N:Int)
  ·rw[show (match some v with|some v=>if 1≤v∧v≤(N:Int) then R.set (v.toNat - 1) true else R|none=>R)=R.set (v.toNat - 1) true from if_pos hvr] at hset
   obtain ⟨v1,v2⟩:=hvr
   have hzn:(v - 1).toNat=v.toNat - 1:=by omega
   repeat' (first|(simp (disch:=first|omega|assumption|exact bd (by with_unfolding_all rfl)|exact Or.inl rfl|exact Or.inl trivial|exact okL_map _ (fun _=>rfl) _|(simp only[VVlen]<;>omega)|fail) only[O1,VV0,VV1,VV2,VV3,VV4,VV5,VV6,VV7,VV8,VV9,mkFnV,vargs,slotsL,opdsA,Nat.reduceEqDiff,Nat.reduceLT,Nat.reduceAdd,Nat.reduceBEq,Int.reduceAdd,Int.reduceSub,Int.reduceLT,Int.reduceLE,Int.reduceEq,Int.reduceNeg,↓reduceIte,reduceCtorEq,scL,scD,expand,List.replicate,baseR,eqIf_ifc,eqIf_nil,eqIfA_nn,hzn])|((first|apply gI_dec|apply gG_dec|apply gPG_dec|apply gI_var|apply gG_var|apply gPG_var)<;>intro _))
   all_goals try (exfalso;omega)
   refine ⟨Nat.zero_le _,trivial,_,.refl _ _,?_⟩
   have:=hgo
   rw[hset] at this
   simp only[baseR,List.map_set] at this
   exact this
  ·rw[show (match some v with|some v=>if 1≤v∧v≤(N:Int) then R.set (v.toNat - 1) true else R|none=>R)=R from if_neg hvr] at hset
   repeat' (first|(simp (disch:=first|omega|assumption|exact bd (by with_unfolding_all rfl)|exact Or.inl rfl|exact Or.inl trivial|exact okL_map _ (fun _=>rfl) _|(simp only[VVlen]<;>omega)|fail) only[O1,VV0,VV1,VV2,VV3,VV4,VV5,VV6,VV7,VV8,VV9,mkFnV,vargs,slotsL,opdsA,Nat.reduceEqDiff,Nat.reduceLT,Nat.reduceAdd,Nat.reduceBEq,Int.reduceAdd,Int.reduceSub,Int.reduceLT,Int.reduceLE,Int.reduceEq,Int.reduceNeg,↓reduceIte,reduceCtorEq,scL,scD,expand,List.replicate,baseR,eqIf_ifc,eqIf_nil,eqIfA_nn])|((first|apply gI_dec|apply gG_dec|apply gPG_dec|apply gI_var|apply gG_var|apply gPG_var)<;>intro _))
   all_goals try (exfalso;omega)
   all_goals (refine ⟨Nat.zero_le _,trivial,_,.refl _ _,?_⟩;have:=hgo;rw[hset] at this;exact this)
 ·rw[hv] at hset
  repeat' (first|(simp (disch:=first|omega|assumption|exact bd (by with_unfolding_all rfl)|exact Or.inl rfl|exact Or.inl trivial|exact okL_map _ (fun _=>rfl) _|(simp only[VVlen]<;>omega)|fail) only[O1,VV0,VV1,VV2,VV3,VV4,VV5,VV6,VV7,VV8,VV9,mkFnV,vargs,slotsL,opdsA,Nat.reduceEqDiff,Nat.reduceLT,Nat.reduceAdd,Nat.reduceBEq,Int.reduceAdd,Int.reduceSub,Int.reduceLT,Int.reduceLE,Int.reduceEq,Int.reduceNeg,↓reduceIte,reduceCtorEq,scL,scD,expand,List.replicate,baseR,eqIf_ifc,eqIf_nil,eqIfA_nn])|((first|apply gI_dec|apply gG_dec|apply gPG_dec|apply gI_var|apply gG_var|apply gPG_var)<;>intro _))
  have hh:=hgo
  rw[hset] at hh
  refine ⟨Nat.zero_le _,trivial,_,weak_toB [(9,9),(8,8),(7,7),(6,6),(5,5),(4,4),(3,3),(2,2),(1,1),(0,0)] 10 (by rw[h4n];exact Nat.le_refl _) rfl (by rw[h4n];rfl) rfl rfl,?_⟩
  exact hh
theorem cutSuf_no {c:UInt8} {s:List UInt8} (h:s.getLast? ≠ some c):cutSuf c s=(s,false):=if_neg h
theorem cutSuf_yes {c:UInt8} {s:List UInt8} (h:s.getLast? =some c):cutSuf c s=(s.dropLast,true):=if_pos h
theorem snap_grid {H:VHp} {o t:Nat} {z:Bool} {a b:Value} {B:List Bool} (h:aget H o=some (.gro t 1 z (B.map bD))):snapL H [.agg [.sc a,.sc b,.gr 2 o B.length]]=some [.agg [.sc a,.sc b,.sl 2 B.length (B.map bD)]]:=by
 have h1:=snap_grD (n:=B.length) h (by rw[List.length_map])
 generalize V.gr 2 o B.length=v at*
 simp[snapV,snapL,h1]
theorem bitsP_snoc (N:Nat) (ls:List (List UInt8)) (k:Nat) (hk:k<ls.length):bitsP N (ls.take (k+1))=bitsP N (ls.take k)++rowP N ls[k]! :=by
 rw[List.take_succ_eq_append_getElem hk,getElem!_pos ls k hk]
 unfold bitsP
 rw[List.map_append,List.flatten_append]
 simp
theorem bitsP_len (N:Nat) (ls:List (List UInt8)):(bitsP N ls).length=ls.length*N:=by
 unfold bitsP
 rw[flat_len _ (fun R hR=>by obtain ⟨x,_,rfl⟩:=List.mem_map.1 hR;exact rowP_len N x),List.length_map]
theorem foldl_take {α β:Type} (f:β→α→β) (b:β) (dn:List α) (x:α):(dn++ [x]).foldl f b=f (dn.foldl f b) x:=by simp
theorem chk_fit (N H:Nat) (L:Nat) (h1:1≤N∧N≤40) (h2:1≤H∧H≤64) (hL:L=N*H):chkE N H L=0:=by
 have e1:¬ ((64:Int)<N∨(64:Int)<H):=by omega
 have e2:¬ ((N:Int)<1∨(H:Int)<1):=by omega
 have e3:(L:Int)=(N:Int)*(H:Int):=by rw[hL];simp
 have e4:¬ (40:Int)<N:=by omega
 simp[chkE,chkG,e1,e2,e3,e4]
theorem read_range {C:Ctx} (hC:C.E=EN w (n+8)) (hes:(errO Tryd.prog w "strconv.ErrSyntax").isSome=true) (her:(errO Tryd.prog w "strconv.ErrRange").isSome=true) (x:List UInt8) (hx:x.length≤100000) (N k L:Nat) (hN:N≤40) (B:List Bool) (s:List UInt8) (v42:V) {K:List KF} {P:VPost}
  (h:∀ (r:List UInt8),gK C K .normal [(0,strV s),(3,.ptr 0 0),(4,.ptr 1 0),(5,.sc (.int .i64 0)),(6,.ptr 2 0),(12,.ptr 5 0),(42,v42),(43,.sc (.int .i64 L)),(44,.sc (.int .i64 k))] ⟨baseR N k B (rowP N x) r,10,0⟩ P):
  gC C (.rangeF (.tmp 51) [52] [0,3,4,5,6,12,42,43,44] c25a0 c25b0) K [(0,strV s),(3,.ptr 0 0),(4,.ptr 1 0),(5,.sc (.int .i64 0)),(6,.ptr 2 0),(12,.ptr 5 0),(42,v42),(43,.sc (.int .i64 L)),(44,.sc (.int .i64 k)),(51,.fn 74 [] [.ptr 7 0,.ptr 6 0,.ptr 8 0])] ⟨baseR N k B (List.replicate N false) x,9,0⟩ P:=by
 refine g_range hC rfl rfl rfl (Nat.le_of_ble_eq_true rfl) rfl (Nat.zero_le _) fun C2 h2n h2r h2p h2o hT=>?_
 refine split_iter (d:=9) (oP:=7) (oS:=6) (oV:=8) (c:=32) (s:=x) w (n+3)
  (fun dn r st=>st=⟨(9,recO 0)::baseR N k B (dn.foldl (setA N) (List.replicate N false)) r,10,0⟩)
  (fun st=>False) h2p h2o h2r (by omega) hT ?_ ?_ ?_ ?_ ?_ _ rfl
 ·rintro dn r st rfl
  exact ⟨rfl,rfl,rfl,Nat.zero_le _⟩
 ·rintro dn r y ws st Q2 hw hwr rfl hgo hstop
  have hym:y ∈ words 32 x:=by rw[hw,hwr];simp
  have hy:=(Go.Itp.words_len (c:=32) x.length (s:=x) (Nat.le_refl _)).2 y hym
  refine rd_round w (n+1) hC hes her y r (by omega) N k hN _ _ (by rw[fold_len];simp) s _ L k Q2 ?_
  refine hgo _ ?_
  rw[foldl_take]
 ·rintro dn r r' st rfl
  rfl
 ·rintro fr st r rfl
  exact ⟨fun i h=>(by cases h),Nat.zero_le _,0,.normal,rfl,rfl,h r⟩
 ·rintro ex fr st hex hf
  exact absurd hf id
theorem read_p (s:List UInt8) (N:Nat) (hl:s.length≤100000) (hN1:1≤N) (hN:N≤40) (hes:(errO Tryd.prog w "strconv.ErrSyntax").isSome=true) (her:(errO Tryd.prog w "strconv.ErrRange").isSome=true):VSpec (EN w (n+9)) 25 [strV s,.sc (.int .i64 N)] (readV N (preadF N s)) ⟨[],0,0⟩:=by
 refine vspec_g rfl rfl (fun _ _=>rfl) (Nat.le_of_ble_eq_true rfl) (oldVals w) (retOK_read _ _) rfl fun C hC h0=>?_
 have hsz:=mk_size s
 have hrn:C.E.rounds=many:=by rw[hC,callP_rounds]
 have hcut:=(cutSuf_p w (n+5) s 10 (by omega)).of hC rfl
 by_cases hg:s.getLast? =some 10
 case neg=>
  have e:preadF N s=none:=by unfold preadF;rw[if_neg (fun h=>hg h.2.1)]
  have hspl:=split_p w (n+2) s 10 (by omega)
  rw[cutSuf_no hg] at hcut
  rw[e]
  repeat' (first|(simp (disch:=first|omega|assumption|exact bd (by with_unfolding_all rfl)|exact Or.inl rfl|exact Or.inl trivial|exact okL_map _ (fun _=>rfl) _|(simp only[VVlen]<;>omega)|fail) only[O1,VV0,VV1,VV2,VV3,VV4,VV5,VV6,VV7,VV8,VV9,mkFnV,vargs,slotsL,opdsA,Nat.reduceEqDiff,Nat.reduceLT,Nat.reduceAdd,Nat.reduceBEq,Int.reduceAdd,Int.reduceSub,Int.reduceLT,Int.reduceLE,Int.reduceEq,Int.reduceNeg,↓reduceIte,reduceCtorEq,scL,scD,expand,List.replicate,c25])|((first|apply gI_dec|apply gG_dec|apply gPG_dec|apply gI_var|apply gG_var|apply gPG_var)<;>intro _))
  all_goals try (exfalso;omega)
  refine callV_flat (hcut _ rfl) ?_
  repeat' (first|(simp (disch:=first|omega|assumption|exact bd (by with_unfolding_all rfl)|exact Or.inl rfl|exact Or.inl trivial|exact okL_map _ (fun _=>rfl) _|(simp only[VVlen]<;>omega)|fail) only[O1,VV0,VV1,VV2,VV3,VV4,VV5,VV6,VV7,VV8,VV9,mkFnV,vargs,slotsL,opdsA,Nat.reduceEqDiff,Nat.reduceLT,Nat.reduceAdd,Nat.reduceBEq,Int.reduceAdd,Int.reduceSub,Int.reduceLT,Int.reduceLE,Int.reduceEq,Int.reduceNeg,↓reduceIte,reduceCtorEq,scL,scD,expand,List.replicate])|((first|apply gI_dec|apply gG_dec|apply gPG_dec|apply gI_var|apply gG_var|apply gPG_var)<;>intro _))
  refine callV_fin (by rw[hC];exact hspl) rfl rfl (fun _=>rfl) ?_
  repeat' (first|(simp (disch:=first|omega|assumption|exact bd (by with_unfolding_all rfl)|exact Or.inl rfl|exact Or.inl trivial|exact okL_map _ (fun _=>rfl) _|(simp only[VVlen]<;>omega)|fail) only[O1,VV0,VV1,VV2,VV3,VV4,VV5,VV6,VV7,VV8,VV9,mkFnV,vargs,slotsL,opdsA,Nat.reduceEqDiff,Nat.reduceLT,Nat.reduceAdd,Nat.reduceBEq,Int.reduceAdd,Int.reduceSub,Int.reduceLT,Int.reduceLE,Int.reduceEq,Int.reduceNeg,↓reduceIte,reduceCtorEq,scL,scD,expand,List.replicate])|((first|apply gI_dec|apply gG_dec|apply gPG_dec|apply gI_var|apply gG_var|apply gPG_var)<;>intro _))
  exact weak_finT3Nil h0 rfl
 rw[cutSuf_yes hg] at hcut
 have hsn:s ≠ []:=fun e=>by rw[e] at hg;cases hg
 have hdl:s.dropLast.length≤100000:=by rw[List.length_dropLast];omega
 have hspl:=split_p w (n+2) s.dropLast 10 (by omega)
 have hwn:=List.length_pos_iff.2 (words_ne 10 s.dropLast)
 have hwl:=Go.Itp.words_len (c:=10) s.dropLast.length (s:=s.dropLast) (Nat.le_refl _)
 have hpf:preadF N s=if (words 10 s.dropLast).length≤64∧planTo (bitsP N (words 10 s.dropLast)) N (words 10 s.dropLast).length=s then some (bitsP N (words 10 s.dropLast),(words 10 s.dropLast).length) else none:=by
  unfold preadF
  by_cases h:(words 10 s.dropLast).length≤64∧planTo (bitsP N (words 10 s.dropLast)) N (words 10 s.dropLast).length=s
  ·rw[if_pos h,if_pos ⟨hsn,hg,h.1,h.2⟩]
  ·rw[if_neg h,if_neg (fun h2=>h ⟨h2.2.2.1,h2.2.2.2⟩)]
 generalize hls:words 10 s.dropLast=ls at*
 by_cases h64:ls.length≤64
 case neg=>
  rw[if_neg (fun h=>h64 h.1)] at hpf
  rw[hpf]
  repeat' (first|(simp (disch:=first|omega|assumption|exact bd (by with_unfolding_all rfl)|exact Or.inl rfl|exact Or.inl trivial|exact okL_map _ (fun _=>rfl) _|(simp only[VVlen]<;>omega)|fail) only[O1,VV0,VV1,VV2,VV3,VV4,VV5,VV6,VV7,VV8,VV9,mkFnV,vargs,slotsL,opdsA,Nat.reduceEqDiff,Nat.reduceLT,Nat.reduceAdd,Nat.reduceBEq,Int.reduceAdd,Int.reduceSub,Int.reduceLT,Int.reduceLE,Int.reduceEq,Int.reduceNeg,↓reduceIte,reduceCtorEq,scL,scD,expand,List.replicate,c25])|((first|apply gI_dec|apply gG_dec|apply gPG_dec|apply gI_var|apply gG_var|apply gPG_var)<;>intro _))
  all_goals try (exfalso;omega)
  refine callV_flat (hcut _ rfl) ?_
  repeat' (first|(simp (disch:=first|omega|assumption|exact bd (by with_unfolding_all rfl)|exact Or.inl rfl|exact Or.inl trivial|exact okL_map _ (fun _=>rfl) _|(simp only[VVlen]<;>omega)|fail) only[O1,VV0,VV1,VV2,VV3,VV4,VV5,VV6,VV7,VV8,VV9,mkFnV,vargs,slotsL,opdsA,Nat.reduceEqDiff,Nat.reduceLT,Nat.reduceAdd,Nat.reduceBEq,Int.reduceAdd,Int.reduceSub,Int.reduceLT,Int.reduceLE,Int.reduceEq,Int.reduceNeg,↓reduceIte,reduceCtorEq,scL,scD,expand,List.replicate])|((first|apply gI_dec|apply gG_dec|apply gPG_dec|apply gI_var|apply gG_var|apply gPG_var)<;>intro _))
  refine callV_fin (by rw[hC];exact hspl) rfl rfl (fun _=>rfl) ?_
  repeat' (first|(simp (disch:=first|omega|assumption|exact bd (by with_unfolding_all rfl)|exact Or.inl rfl|exact Or.inl trivial|exact okL_map _ (fun _=>rfl) _|(simp only[VVlen]<;>omega)|fail) only[O1,VV0,VV1,VV2,VV3,VV4,VV5,VV6,VV7,VV8,VV9,mkFnV,vargs,slotsL,opdsA,Nat.reduceEqDiff,Nat.reduceLT,Nat.reduceAdd,Nat.reduceBEq,Int.reduceAdd,Int.reduceSub,Int.reduceLT,Int.reduceLE,Int.reduceEq,Int.reduceNeg,↓reduceIte,reduceCtorEq,scL,scD,expand,List.replicate])|((first|apply gI_dec|apply gG_dec|apply gPG_dec|apply gI_var|apply gG_var|apply gPG_var)<;>intro _))
  exact weak_finT3Nil h0 rfl
 have hlm:(ls.map sD).length=ls.length:=by rw[List.length_map]
 repeat' (first|(simp (disch:=first|omega|assumption|exact bd (by with_unfolding_all rfl)|exact Or.inl rfl|exact Or.inl trivial|exact okL_map _ (fun _=>rfl) _|(simp only[VVlen]<;>omega)|fail) only[O1,VV0,VV1,VV2,VV3,VV4,VV5,VV6,VV7,VV8,VV9,mkFnV,vargs,slotsL,opdsA,Nat.reduceEqDiff,Nat.reduceLT,Nat.reduceAdd,Nat.reduceBEq,Int.reduceAdd,Int.reduceSub,Int.reduceLT,Int.reduceLE,Int.reduceEq,Int.reduceNeg,↓reduceIte,reduceCtorEq,scL,scD,expand,List.replicate,c25])|((first|apply gI_dec|apply gG_dec|apply gPG_dec|apply gI_var|apply gG_var|apply gPG_var)<;>intro _))
 all_goals try (exfalso;omega)
 refine callV_flat (hcut _ rfl) ?_
 repeat' (first|(simp (disch:=first|omega|assumption|exact bd (by with_unfolding_all rfl)|exact Or.inl rfl|exact Or.inl trivial|exact okL_map _ (fun _=>rfl) _|(simp only[VVlen]<;>omega)|fail) only[O1,VV0,VV1,VV2,VV3,VV4,VV5,VV6,VV7,VV8,VV9,mkFnV,vargs,slotsL,opdsA,Nat.reduceEqDiff,Nat.reduceLT,Nat.reduceAdd,Nat.reduceBEq,Int.reduceAdd,Int.reduceSub,Int.reduceLT,Int.reduceLE,Int.reduceEq,Int.reduceNeg,↓reduceIte,reduceCtorEq,scL,scD,expand,List.replicate])|((first|apply gI_dec|apply gG_dec|apply gPG_dec|apply gI_var|apply gG_var|apply gPG_var)<;>intro _))
 refine callV_fin (by rw[hC];exact hspl) rfl rfl (fun _=>rfl) ?_
 repeat' (first|(simp (disch:=first|omega|assumption|exact bd (by with_unfolding_all rfl)|exact Or.inl rfl|exact Or.inl trivial|exact okL_map _ (fun _=>rfl) _|(simp only[VVlen]<;>omega)|fail) only[O1,VV0,VV1,VV2,VV3,VV4,VV5,VV6,VV7,VV8,VV9,mkFnV,vargs,slotsL,opdsA,Nat.reduceEqDiff,Nat.reduceLT,Nat.reduceAdd,Nat.reduceBEq,Int.reduceAdd,Int.reduceSub,Int.reduceLT,Int.reduceLE,Int.reduceEq,Int.reduceNeg,↓reduceIte,reduceCtorEq,scL,scD,expand,List.replicate])|((first|apply gI_dec|apply gG_dec|apply gPG_dec|apply gI_var|apply gG_var|apply gPG_var)<;>intro _))
 all_goals try (exfalso;omega)
 refine g_while (fun m fr st=>∃ k:Nat,m=ls.length - k∧k≤ls.length∧fr= [(0,strV s),(3,.ptr 0 0),(4,.ptr 1 0),(5,.sc (.int .i64 0)),(6,.ptr 2 0),(42,.sl 3 ls.length (ls.map sD)),(43,.sc (.int .i64 ls.length)),(44,.sc (.int .i64 k))]∧
   st=⟨[(3,.gro 4 1 false ((bitsP N (ls.take k)).map bD)),(2,.box 24 1 [.sc (.int .i64 N),.sc (.int .i64 k),.gr 2 3 (bitsP N (ls.take k)).length]),(1,.box 24 1 [.sc (.int .i64 0),.sc (.int .i64 0),.sc (.slice none 0 0)]),(0,.box 3 1 [.sc (.int .i64 N)])],4,0⟩) ls.length ?_
   ⟨_,_,weak_nilCell (l:= [.sc (.int .i64 N),.sc (.int .i64 0),.sc (.slice none 0 0)]) 2 24 1 2 4 1 rfl rfl (fun h=>absurd (show (2:Nat)=3 from h) (by decide)),0,rfl,Nat.zero_le _,rfl,rfl⟩ ?_
 ·rw[hrn];unfold many;omega
 rintro m fr st ⟨k,rfl,hk,rfl,rfl⟩
 by_cases hlt:k<ls.length
 case neg=>
  have:k=ls.length:=by omega
  subst this
  rw[List.take_length]
  have hBl:=bitsP_len N ls
  have hfit:=chk_fit N ls.length (bitsP N ls).length ⟨hN1,hN⟩ ⟨hwn,h64⟩ (by rw[hBl,Nat.mul_comm])
  have hplan:∀ (st:VSt) (xs:List V),snapL st.own xs=some [gridV 2 N ls.length (bitsP N ls)]→VSpecO C.E 11 st xs (.tup [strV (planTo (bitsP N ls) N ls.length),.sc (.int .i64 0)]):=fun st xs h=>by
   rw[hC]
   exact (plan_p w (n+3) 2 N ls.length (bitsP N ls) hfit ⟨hN1,hN⟩ ⟨hwn,h64⟩ (by rw[hBl,Nat.mul_comm])).flat rfl h
  generalize hB:bitsP N ls=B at*
  have hBm:(B.map bD).length=B.length:=by rw[List.length_map]
  have hsn2:=fun (H:VHp) (h:aget H 3=some (.gro 4 1 false (B.map bD)))=>snap_grid (a:= .int .i64 N) (b:= .int .i64 ls.length) h
  generalize planTo B N ls.length=T at*
  by_cases hT:T=s
  ·rw[if_pos ⟨h64,hT⟩] at hpf
   rw[hpf]
   repeat' (first|(simp (disch:=first|omega|assumption|exact bd (by with_unfolding_all rfl)|exact Or.inl rfl|exact Or.inl trivial|exact okL_map _ (fun _=>rfl) _|(simp only[VVlen]<;>omega)|fail) only[O1,VV0,VV1,VV2,VV3,VV4,VV5,VV6,VV7,VV8,VV9,mkFnV,vargs,slotsL,opdsA,Nat.reduceEqDiff,Nat.reduceLT,Nat.reduceAdd,Nat.reduceBEq,Int.reduceAdd,Int.reduceSub,Int.reduceLT,Int.reduceLE,Int.reduceEq,Int.reduceNeg,↓reduceIte,reduceCtorEq,scL,scD,expand,List.replicate,c25l0])|((first|apply gI_dec|apply gG_dec|apply gPG_dec|apply gI_var|apply gG_var|apply gPG_var)<;>intro _))
   all_goals try (exfalso;omega)
   refine callV_flat (hplan _ _ (hsn2 _ rfl)) ?_
   repeat' (first|(simp (disch:=first|omega|assumption|exact bd (by with_unfolding_all rfl)|exact Or.inl rfl|exact Or.inl trivial|exact okL_map _ (fun _=>rfl) _|(simp only[VVlen]<;>omega)|fail) only[O1,VV0,VV1,VV2,VV3,VV4,VV5,VV6,VV7,VV8,VV9,mkFnV,vargs,slotsL,opdsA,Nat.reduceEqDiff,Nat.reduceLT,Nat.reduceAdd,Nat.reduceBEq,Int.reduceAdd,Int.reduceSub,Int.reduceLT,Int.reduceLE,Int.reduceEq,Int.reduceNeg,↓reduceIte,reduceCtorEq,scL,scD,expand,List.replicate,mk_inj,hT])|((first|apply gI_dec|apply gG_dec|apply gPG_dec|apply gI_var|apply gG_var|apply gPG_var)<;>intro _))
   all_goals try (exfalso;omega)
   exact weak_finT3 (s:=2) (snap_grD rfl hBm) rfl (.inl (by decide)) h0 rfl
  ·rw[if_neg (fun h=>hT h.2)] at hpf
   rw[hpf]
   repeat' (first|(simp (disch:=first|omega|assumption|exact bd (by with_unfolding_all rfl)|exact Or.inl rfl|exact Or.inl trivial|exact okL_map _ (fun _=>rfl) _|(simp only[VVlen]<;>omega)|fail) only[O1,VV0,VV1,VV2,VV3,VV4,VV5,VV6,VV7,VV8,VV9,mkFnV,vargs,slotsL,opdsA,Nat.reduceEqDiff,Nat.reduceLT,Nat.reduceAdd,Nat.reduceBEq,Int.reduceAdd,Int.reduceSub,Int.reduceLT,Int.reduceLE,Int.reduceEq,Int.reduceNeg,↓reduceIte,reduceCtorEq,scL,scD,expand,List.replicate,c25l0])|((first|apply gI_dec|apply gG_dec|apply gPG_dec|apply gI_var|apply gG_var|apply gPG_var)<;>intro _))
   all_goals try (exfalso;omega)
   refine callV_flat (hplan _ _ (hsn2 _ rfl)) ?_
   repeat' (first|(simp (disch:=first|omega|assumption|exact bd (by with_unfolding_all rfl)|exact Or.inl rfl|exact Or.inl trivial|exact okL_map _ (fun _=>rfl) _|(simp only[VVlen]<;>omega)|fail) only[O1,VV0,VV1,VV2,VV3,VV4,VV5,VV6,VV7,VV8,VV9,mkFnV,vargs,slotsL,opdsA,Nat.reduceEqDiff,Nat.reduceLT,Nat.reduceAdd,Nat.reduceBEq,Int.reduceAdd,Int.reduceSub,Int.reduceLT,Int.reduceLE,Int.reduceEq,Int.reduceNeg,↓reduceIte,reduceCtorEq,scL,scD,expand,List.replicate,mk_inj,hT])|((first|apply gI_dec|apply gG_dec|apply gPG_dec|apply gI_var|apply gG_var|apply gPG_var)<;>intro _))
   all_goals try (exfalso;omega)
   exact weak_finT3Nil h0 rfl
 have hBs:=bitsP_snoc N ls k hlt
 have hBl:=bitsP_len N (ls.take k)
 rw[List.length_take,Nat.min_eq_left hk] at hBl
 have hBl2:(bitsP N (ls.take k)).length≤64*40:=by rw[hBl];exact Nat.mul_le_mul (by omega) hN
 have hrp:=rowP_len N ls[k]!
 have hx:=hwl.2 ls[k]! (by rw[getElem!_pos ls k hlt];exact List.getElem_mem hlt)
 have hfold:rowP N ls[k]! =(words 32 ls[k]!).foldl (setA N) (List.replicate N false):=rfl
 have hr0:List.replicate N (D.sc (Value.bool false))=(List.replicate N false).map bD:=by simp[bD]
 have hspq:=splitSeq_p w (n+6) ls[k]! 32
 generalize hx0:ls[k]! =x at*
 repeat' (first|(simp (disch:=first|omega|assumption|exact bd (by with_unfolding_all rfl)|exact Or.inl rfl|exact Or.inl trivial|exact okL_map _ (fun _=>rfl) _|(simp only[VVlen]<;>omega)|fail) only[O1,VV0,VV1,VV2,VV3,VV4,VV5,VV6,VV7,VV8,VV9,mkFnV,vargs,slotsL,opdsA,Nat.reduceEqDiff,Nat.reduceLT,Nat.reduceAdd,Nat.reduceBEq,Int.reduceAdd,Int.reduceSub,Int.reduceLT,Int.reduceLE,Int.reduceEq,Int.reduceNeg,↓reduceIte,reduceCtorEq,scL,scD,expand,List.replicate,c25l0,sD_dv,hx0])|((first|apply gI_dec|apply gG_dec|apply gPG_dec|apply gI_var|apply gG_var|apply gPG_var)<;>intro _))
 all_goals try (exfalso;omega)
 refine callV_of (by rw[hC];exact hspq) rfl rfl rfl ?_
 repeat' (first|(simp (disch:=first|omega|assumption|exact bd (by with_unfolding_all rfl)|exact Or.inl rfl|exact Or.inl trivial|exact okL_map _ (fun _=>rfl) _|(simp only[VVlen]<;>omega)|fail) only[O1,VV0,VV1,VV2,VV3,VV4,VV5,VV6,VV7,VV8,VV9,mkFnV,vargs,slotsL,opdsA,Nat.reduceEqDiff,Nat.reduceLT,Nat.reduceAdd,Nat.reduceBEq,Int.reduceAdd,Int.reduceSub,Int.reduceLT,Int.reduceLE,Int.reduceEq,Int.reduceNeg,↓reduceIte,reduceCtorEq,scL,scD,expand,List.replicate,vsh,vshL,shH,shO,fzSL,fzS])|((first|apply gI_dec|apply gG_dec|apply gPG_dec|apply gI_var|apply gG_var|apply gPG_var)<;>intro _))
 rw[hr0]
 refine read_range w n hC hes her x (by omega) N k ls.length hN _ s _ fun r=>?_
 generalize rowP N x=R at*
 have hRm:(R.map bD).length=N:=by rw[List.length_map,hrp]
 have hbt:((bitsP N (ls.take k)).map bD).length=(bitsP N (ls.take k)).length:=by rw[List.length_map]
 repeat' (first|(simp (disch:=first|omega|assumption|exact bd (by with_unfolding_all rfl)|exact Or.inl rfl|exact Or.inl trivial|exact okL_map _ (fun _=>rfl) _|(simp only[VVlen]<;>omega)|fail) only[O1,VV0,VV1,VV2,VV3,VV4,VV5,VV6,VV7,VV8,VV9,mkFnV,vargs,slotsL,opdsA,Nat.reduceEqDiff,Nat.reduceLT,Nat.reduceAdd,Nat.reduceBEq,Int.reduceAdd,Int.reduceSub,Int.reduceLT,Int.reduceLE,Int.reduceEq,Int.reduceNeg,↓reduceIte,reduceCtorEq,scL,scD,expand,List.replicate,baseR])|((first|apply gI_dec|apply gG_dec|apply gPG_dec|apply gI_var|apply gG_var|apply gPG_var)<;>intro _))
 refine ⟨_,_,_,by omega,weak_to [(10,3),(2,2),(1,1),(0,0)] 4 h0 rfl rfl rfl rfl,k+1,rfl,hlt,rfl,?_⟩
 rw[hBs,List.map_append,List.length_append,hrp]
 rfl
end
end Go.Proofs.YtepdkmdcainddaaDoor
namespace Go.Proofs.YtepdkmdcainddaaDoor
open Go Go.Itp
set_option maxRecDepth 100000
set_option maxHeartbeats 1000000
set_option linter.unusedSimpArgs false
def validS (q:Int) (L:List (List Bool)):Bool:=decide (1≤q∧q≤40∧2≤L.length∧L.length≤65∧∀ k,k<L.length→(L[k]!.length:Int)=q+1)
theorem lt_succ_cases {P:Nat→Prop} {k:Nat} (h:∀ j,j<k→P j) (hk:P k):∀ j,j<k+1→P j:=fun j hj=>by
 rcases Nat.lt_or_eq_of_le (Nat.le_of_lt_succ hj) with h1|h1
 ·exact h j h1
 ·subst h1;exact hk
section
variable (w:World) (n:Nat)
theorem chain_p (s s':Nat) (q:Int) (L:List (List Bool)):
  VSpec (EN w (n+1)) 21 [chainV s s' q L] (.sc (.int .i64 (if validS q L then 0 else 8))) ⟨[],0,0⟩:=by
 refine vspec_flat rfl rfl (fun _ _=>rfl) (Nat.le_of_ble_eq_true rfl) (oldVals w) rfl fun C hC h0=>?_
 by_cases h1:1≤q∧q≤40∧2≤L.length∧L.length≤65
 case neg=>
  rw[if_neg (by simp only[validS,decide_eq_true_eq];exact fun h=>h1 ⟨h.1,h.2.1,h.2.2.1,h.2.2.2.1⟩)]
  repeat' (first|(simp (disch:=first|omega|assumption|exact bd (by with_unfolding_all rfl)|exact Or.inl rfl|exact Or.inl trivial|exact okL_map _ (fun _=>rfl) _|(simp only[VVlen]<;>omega)|fail) only[O1,VV0,VV1,VV2,VV3,VV4,VV5,VV6,VV7,VV8,VV9,mkFnV,vargs,slotsL,opdsA,Nat.reduceEqDiff,Nat.reduceLT,Nat.reduceAdd,Nat.reduceBEq,Int.reduceAdd,Int.reduceSub,Int.reduceLT,Int.reduceLE,Int.reduceEq,Int.reduceNeg,↓reduceIte,reduceCtorEq,scL,scD,expand,List.replicate,c21])|((first|apply gI_dec|apply gG_dec|apply gPG_dec|apply gI_var|apply gG_var|apply gPG_var)<;>intro _))
  all_goals first|exact weak_flat rfl h0 rfl|(exfalso;omega)
 repeat' (first|(simp (disch:=first|omega|assumption|exact bd (by with_unfolding_all rfl)|exact Or.inl rfl|exact Or.inl trivial|exact okL_map _ (fun _=>rfl) _|(simp only[VVlen]<;>omega)|fail) only[O1,VV0,VV1,VV2,VV3,VV4,VV5,VV6,VV7,VV8,VV9,mkFnV,vargs,slotsL,opdsA,Nat.reduceEqDiff,Nat.reduceLT,Nat.reduceAdd,Nat.reduceBEq,Int.reduceAdd,Int.reduceSub,Int.reduceLT,Int.reduceLE,Int.reduceEq,Int.reduceNeg,↓reduceIte,reduceCtorEq,scL,scD,expand,List.replicate,c21])|((first|apply gI_dec|apply gG_dec|apply gPG_dec|apply gI_var|apply gG_var|apply gPG_var)<;>intro _))
 refine g_while (fun m fr st=>∃ k:Nat,m=L.length - k∧k≤L.length∧fr= [(1,.ptr 0 0),(3,.sc (.int .i64 k))]∧st=⟨[(0,.box 34 1 [.sc (.int .i64 q),.sl s L.length (L.map (rowD s'))])],1,0⟩∧∀ j,j<k→(L[j]!.length:Int)=q+1) L.length ?_ ⟨_,_,.refl _ _,0,?_⟩ ?_
 ·rw[hC,callP_rounds];unfold many;omega
 ·exact ⟨by omega,by omega,rfl,rfl,by omega⟩
 ·rintro m fr st ⟨k,rfl,hk,rfl,rfl,hj⟩
  by_cases hlt:k<L.length
  ·by_cases hw:(L[k]!.length:Int)=q+1
   ·repeat' (first|(simp (disch:=first|omega|assumption|exact bd (by with_unfolding_all rfl)|exact Or.inl rfl|exact Or.inl trivial|exact okL_map _ (fun _=>rfl) _|(simp only[VVlen]<;>omega)|fail) only[O1,VV0,VV1,VV2,VV3,VV4,VV5,VV6,VV7,VV8,VV9,mkFnV,vargs,slotsL,opdsA,Nat.reduceEqDiff,Nat.reduceLT,Nat.reduceAdd,Nat.reduceBEq,Int.reduceAdd,Int.reduceSub,Int.reduceLT,Int.reduceLE,Int.reduceEq,Int.reduceNeg,↓reduceIte,reduceCtorEq,scL,scD,expand,List.replicate,c21l0,rowD_dv])|((first|apply gI_dec|apply gG_dec|apply gPG_dec|apply gI_var|apply gG_var|apply gPG_var)<;>intro _))
    exact ⟨_,_,_,by omega,.refl _ _,k+1,rfl,hlt,rfl,rfl,lt_succ_cases hj hw⟩
   ·rw[if_neg (by simp only[validS,decide_eq_true_eq];exact fun h=>hw (h.2.2.2.2 k hlt))]
    repeat' (first|(simp (disch:=first|omega|assumption|exact bd (by with_unfolding_all rfl)|exact Or.inl rfl|exact Or.inl trivial|exact okL_map _ (fun _=>rfl) _|(simp only[VVlen]<;>omega)|fail) only[O1,VV0,VV1,VV2,VV3,VV4,VV5,VV6,VV7,VV8,VV9,mkFnV,vargs,slotsL,opdsA,Nat.reduceEqDiff,Nat.reduceLT,Nat.reduceAdd,Nat.reduceBEq,Int.reduceAdd,Int.reduceSub,Int.reduceLT,Int.reduceLE,Int.reduceEq,Int.reduceNeg,↓reduceIte,reduceCtorEq,scL,scD,expand,List.replicate,c21l0,rowD_dv])|((first|apply gI_dec|apply gG_dec|apply gPG_dec|apply gI_var|apply gG_var|apply gPG_var)<;>intro _))
    exact weak_flat rfl h0 rfl
  ·have:k=L.length:=by omega
   subst this
   rw[if_pos (by simp only[validS,decide_eq_true_eq];exact ⟨h1.1,h1.2.1,h1.2.2.1,h1.2.2.2,hj⟩)]
   repeat' (first|(simp (disch:=first|omega|assumption|exact bd (by with_unfolding_all rfl)|exact Or.inl rfl|exact Or.inl trivial|exact okL_map _ (fun _=>rfl) _|(simp only[VVlen]<;>omega)|fail) only[O1,VV0,VV1,VV2,VV3,VV4,VV5,VV6,VV7,VV8,VV9,mkFnV,vargs,slotsL,opdsA,Nat.reduceEqDiff,Nat.reduceLT,Nat.reduceAdd,Nat.reduceBEq,Int.reduceAdd,Int.reduceSub,Int.reduceLT,Int.reduceLE,Int.reduceEq,Int.reduceNeg,↓reduceIte,reduceCtorEq,scL,scD,expand,List.replicate,c21l0,rowD_dv])|((first|apply gI_dec|apply gG_dec|apply gPG_dec|apply gI_var|apply gG_var|apply gPG_var)<;>intro _))
   exact weak_flat rfl h0 rfl
end
end Go.Proofs.YtepdkmdcainddaaDoor
namespace Go.Proofs.YtepdkmdcainddaaDoor
open Go Go.Itp
set_option maxRecDepth 100000
set_option maxHeartbeats 1000000
set_option linter.unusedSimpArgs false
set_option linter.unusedVariables false
theorem decode_small {s:ByteArray} {i:Nat} (h:(s.get! i).toNat<128):Utf8.decode s i=((s.get! i).toNat,1):=by
 unfold Utf8.decode
 simp only[Nat.add_zero]
 rw[if_pos h]
theorem decode_big {s:ByteArray} {i:Nat} (h:¬ (s.get! i).toNat<128):128≤(Utf8.decode s i).1:=by
 unfold Utf8.decode
 simp only[Nat.add_zero]
 rw[if_neg h]
 simp only[Bool.and_eq_true,decide_eq_true_eq]
 repeat' split
 all_goals simp only[Utf8.runeError]
 all_goals first|omega|(rename_i h1;have h2:=h1.1;omega)
theorem get_l (l:List UInt8) (i:Nat) (h:i<l.length):(ByteArray.mk l.toArray).get! i=l[i]! :=by
 have h1:(ByteArray.mk l.toArray).size=l.length:=by simp[ByteArray.size]
 show l.toArray[i]! =l[i]!
 simp
def parseP:List UInt8→List (List Bool)→List Bool→Option (List (List Bool) × List Bool)
 | [],cs,c=>some (cs,c)
 |b::r,cs,c=>if b=111∨b=46 then parseP r cs (c++ [decide (b=111)]) else if b=10 then parseP r (cs++ [c]) [] else none
def lastL (cs:List (List Bool)):Int:=match cs.getLast? with|some c=>(c.length:Int) - 1|none=>0
def parse18 (s:List UInt8):Option (Int × List (List Bool)):=match parseP s [] [] with
 |none=>none
 |some p=>if p.2= []∧validS (lastL p.1) p.1=true then some (lastL p.1,p.1) else none
def chainR:Option (Int × List (List Bool))→V
 |some p=> .tup [.agg [.sc (.int .i64 p.1),.sl 3 p.2.length (p.2.map (rowD 2))],.sc (.int .i64 0)]
 |none=> .tup [.agg [.sc (.int .i64 0),.sl 3 0 []],.sc (.int .i64 12)]
theorem retOK_chain (r:Option (Int × List (List Bool))):RetOK [] (chainR r):=by
 cases r<;>exact retOK_finA2
theorem valid_head {q:Int} {cs:List (List Bool)} (h:validS q cs=true):q=(cs[0]!.length:Int) - 1∧q=lastL cs:=by
 simp only[validS,decide_eq_true_eq] at h
 obtain ⟨_,_,h3,_,h5⟩:=h
 refine ⟨by have:=h5 0 (by omega);omega,?_⟩
 have h6:=h5 (cs.length - 1) (by omega)
 unfold lastL
 rw[List.getLast?_eq_getElem?,List.getElem?_eq_getElem (by omega)]
 rw[getElem!_pos cs _ (by omega)] at h6
 simp only
 omega
theorem valid_first (cs:List (List Bool)):validS ((cs[0]!.length:Int) - 1) cs=validS (lastL cs) cs:=by
 cases h1:validS ((cs[0]!.length:Int) - 1) cs with
 |true=>rw[← (valid_head h1).2,h1]
 |false=>
  cases h2:validS (lastL cs) cs with
  |true=>rw[← (valid_head h2).1,h2] at h1;cases h1
  |false=>rfl
def fIdx (F:Nat→Bool):Nat→Nat→Int
 |_,0=> -1
 |k,m+1=>if F k=true then k else fIdx F (k+1) m
theorem fIdx_neg (F:Nat→Bool):∀ m k,(0≤fIdx F k m)↔∃ j,k≤j∧j<k+m∧F j=true
 |0,k=>by simp only[fIdx];constructor;omega;rintro ⟨j,h1,h2,_⟩;omega
 |m+1,k=>by
  rw[fIdx]
  by_cases h:F k=true
  ·rw[if_pos h];exact ⟨fun _=>⟨k,by omega,by omega,h⟩,fun _=>by omega⟩
  ·rw[if_neg h,fIdx_neg F m (k+1)]
   constructor
   ·rintro ⟨j,h1,h2,h3⟩;exact ⟨j,by omega,by omega,h3⟩
   ·rintro ⟨j,h1,h2,h3⟩
    have:j ≠ k:=fun e=>h (e▸h3)
    exact ⟨j,by omega,by omega,h3⟩
section
variable (w:World) (n:Nat)
theorem validC_p (st:VSt) (o t e:Nat) (q:Int) (v:V) (s:Nat) (l:List Bool) (h1:aget st.own o=some (.box t e [.sc (.int .i64 q),v])) (hq: -10000000≤q∧q≤10000000) (hl:l.length≤10000000):
  VSpecO (EN w (n+1)) 66 st [.sl s l.length (l.map bD),.ptr o 0] (.sc (.bool (decide (¬ (l.length:Int)=q+1)))):=by
 refine vspecO_g rfl rfl (fun _ _=>rfl) (Nat.le_of_ble_eq_true rfl) rfl fun C hC h0=>⟨⟨st.own,st.next,st.next⟩,?_⟩
 repeat' (first|(simp (disch:=first|omega|assumption|exact bd (by with_unfolding_all rfl)|exact Or.inl rfl|exact Or.inl trivial|exact okL_map _ (fun _=>rfl) _|(simp only[VVlen]<;>omega)|fail) only[O1,VV0,VV1,VV2,VV3,VV4,VV5,VV6,VV7,VV8,VV9,mkFnV,vargs,slotsL,opdsA,Nat.reduceEqDiff,Nat.reduceLT,Nat.reduceAdd,Nat.reduceBEq,Int.reduceAdd,Int.reduceSub,Int.reduceLT,Int.reduceLE,Int.reduceEq,Int.reduceNeg,↓reduceIte,reduceCtorEq,scL,scD,expand,List.replicate,c66,h1])|((first|apply gI_dec|apply gG_dec|apply gPG_dec|apply gI_var|apply gG_var|apply gPG_var)<;>intro _))
 all_goals exact .refl _ _
theorem indexF_p (st:VSt) (s s':Nat) (L:List (List Bool)) (hL:L.length≤10000000) (f:FuncId) (caps:List V) (F:Nat→Bool) (h:∀ i:Nat,i<L.length→VSpecO (EN w n) f st (dv (rowD s' L[i]!)::caps) (.sc (.bool (F i)))):
  VSpecO (EN w (n+1)) 81 st [.sl s L.length (L.map (rowD s')),.fn f [] caps] (.sc (.int .i64 (fIdx F 0 L.length))):=by
 refine vspecO_g rfl rfl (fun _ _=>rfl) (Nat.le_of_ble_eq_true rfl) rfl fun C hC h0=>⟨⟨st.own,st.next,st.next⟩,?_⟩
 simp (disch:=first|omega|assumption|exact bd (by with_unfolding_all rfl)|exact Or.inl rfl|exact Or.inl trivial|exact okL_map _ (fun _=>rfl) _|(simp only[VVlen]<;>omega)|fail) only[O1,VV0,VV1,VV2,VV3,VV4,VV5,VV6,VV7,VV8,VV9,mkFnV,vargs,slotsL,opdsA,Nat.reduceEqDiff,Nat.reduceLT,Nat.reduceAdd,Nat.reduceBEq,Int.reduceAdd,Int.reduceSub,Int.reduceLT,Int.reduceLE,Int.reduceEq,Int.reduceNeg,↓reduceIte,reduceCtorEq,scL,scD,expand,List.replicate,c81]
 refine g_while (fun m fr t=>∃ k:Nat,m=L.length - k∧k≤L.length∧fIdx F 0 L.length=fIdx F k (L.length - k)∧fr= [(0,.sl s L.length (L.map (rowD s'))),(1,.fn f [] caps),(7,.sc (.int .i64 L.length)),(8,.sc (.int .i64 k))]∧t=⟨st.own,st.next,st.next⟩) L.length ?_ ⟨_,_,.refl _ _,0,?_⟩ ?_
 ·rw[hC,callP_rounds];unfold many;omega
 ·exact ⟨by omega,by omega,rfl,rfl,rfl⟩
 ·rintro m fr t ⟨k,rfl,hk,hf,rfl,rfl⟩
  by_cases hlt:k<L.length
  ·rw[show L.length - k=(L.length - (k+1))+1 by omega,fIdx] at hf
   have hh:=h k hlt
   have hlm:(L.map (rowD s')).length=L.length:=by rw[List.length_map]
   by_cases hb:F k=true
   ·rw[if_pos hb] at hf
    rw[hb] at hh
    rw[hf]
    repeat' (first|(simp (disch:=first|omega|assumption|exact bd (by with_unfolding_all rfl)|exact Or.inl rfl|exact Or.inl trivial|exact okL_map _ (fun _=>rfl) _|(simp only[VVlen]<;>omega)|fail) only[O1,VV0,VV1,VV2,VV3,VV4,VV5,VV6,VV7,VV8,VV9,mkFnV,vargs,slotsL,opdsA,Nat.reduceEqDiff,Nat.reduceLT,Nat.reduceAdd,Nat.reduceBEq,Int.reduceAdd,Int.reduceSub,Int.reduceLT,Int.reduceLE,Int.reduceEq,Int.reduceNeg,↓reduceIte,reduceCtorEq,scL,scD,expand,List.replicate,c81l0])|((first|apply gI_dec|apply gG_dec|apply gPG_dec|apply gI_var|apply gG_var|apply gPG_var)<;>intro _))
    refine callV_flat (v:= .sc (.bool true)) (by rw[hC];exact hh) ?_
    repeat' (first|(simp (disch:=first|omega|assumption|exact bd (by with_unfolding_all rfl)|exact Or.inl rfl|exact Or.inl trivial|exact okL_map _ (fun _=>rfl) _|(simp only[VVlen]<;>omega)|fail) only[O1,VV0,VV1,VV2,VV3,VV4,VV5,VV6,VV7,VV8,VV9,mkFnV,vargs,slotsL,opdsA,Nat.reduceEqDiff,Nat.reduceLT,Nat.reduceAdd,Nat.reduceBEq,Int.reduceAdd,Int.reduceSub,Int.reduceLT,Int.reduceLE,Int.reduceEq,Int.reduceNeg,↓reduceIte,reduceCtorEq,scL,scD,expand,List.replicate])|((first|apply gI_dec|apply gG_dec|apply gPG_dec|apply gI_var|apply gG_var|apply gPG_var)<;>intro _))
    exact .refl _ _
   ·rw[if_neg hb] at hf
    rw[Bool.eq_false_iff.2 hb] at hh
    repeat' (first|(simp (disch:=first|omega|assumption|exact bd (by with_unfolding_all rfl)|exact Or.inl rfl|exact Or.inl trivial|exact okL_map _ (fun _=>rfl) _|(simp only[VVlen]<;>omega)|fail) only[O1,VV0,VV1,VV2,VV3,VV4,VV5,VV6,VV7,VV8,VV9,mkFnV,vargs,slotsL,opdsA,Nat.reduceEqDiff,Nat.reduceLT,Nat.reduceAdd,Nat.reduceBEq,Int.reduceAdd,Int.reduceSub,Int.reduceLT,Int.reduceLE,Int.reduceEq,Int.reduceNeg,↓reduceIte,reduceCtorEq,scL,scD,expand,List.replicate,c81l0])|((first|apply gI_dec|apply gG_dec|apply gPG_dec|apply gI_var|apply gG_var|apply gPG_var)<;>intro _))
    refine callV_flat (v:= .sc (.bool false)) (by rw[hC];exact hh) ?_
    repeat' (first|(simp (disch:=first|omega|assumption|exact bd (by with_unfolding_all rfl)|exact Or.inl rfl|exact Or.inl trivial|exact okL_map _ (fun _=>rfl) _|(simp only[VVlen]<;>omega)|fail) only[O1,VV0,VV1,VV2,VV3,VV4,VV5,VV6,VV7,VV8,VV9,mkFnV,vargs,slotsL,opdsA,Nat.reduceEqDiff,Nat.reduceLT,Nat.reduceAdd,Nat.reduceBEq,Int.reduceAdd,Int.reduceSub,Int.reduceLT,Int.reduceLE,Int.reduceEq,Int.reduceNeg,↓reduceIte,reduceCtorEq,scL,scD,expand,List.replicate])|((first|apply gI_dec|apply gG_dec|apply gPG_dec|apply gI_var|apply gG_var|apply gPG_var)<;>intro _))
    exact ⟨_,_,_,by omega,.refl _ _,k+1,rfl,hlt,hf,rfl,rfl⟩
  ·have:k=L.length:=by omega
   subst this
   rw[hf,Nat.sub_self,fIdx]
   repeat' (first|(simp (disch:=first|omega|assumption|exact bd (by with_unfolding_all rfl)|exact Or.inl rfl|exact Or.inl trivial|exact okL_map _ (fun _=>rfl) _|(simp only[VVlen]<;>omega)|fail) only[O1,VV0,VV1,VV2,VV3,VV4,VV5,VV6,VV7,VV8,VV9,mkFnV,vargs,slotsL,opdsA,Nat.reduceEqDiff,Nat.reduceLT,Nat.reduceAdd,Nat.reduceBEq,Int.reduceAdd,Int.reduceSub,Int.reduceLT,Int.reduceLE,Int.reduceEq,Int.reduceNeg,↓reduceIte,reduceCtorEq,scL,scD,expand,List.replicate,c81l0])|((first|apply gI_dec|apply gG_dec|apply gPG_dec|apply gI_var|apply gG_var|apply gPG_var)<;>intro _))
   exact .refl _ _
theorem containsF_p (st:VSt) (s s':Nat) (L:List (List Bool)) (hL:L.length≤10000000) (f:FuncId) (caps:List V) (F:Nat→Bool) (h:∀ (st':VSt),st'.own=st.own→∀ i:Nat,i<L.length→VSpecO (EN w n) f st' (dv (rowD s' L[i]!)::caps) (.sc (.bool (F i)))):
  VSpecO (EN w (n+2)) 65 st [.sl s L.length (L.map (rowD s')),.fn f [] caps] (.sc (.bool (decide (0≤fIdx F 0 L.length)))):=by
 refine vspecO_g rfl rfl (fun _ _=>rfl) (Nat.le_of_ble_eq_true rfl) rfl fun C hC h0=>⟨⟨st.own,st.next,st.next⟩,?_⟩
 simp (disch:=first|omega|assumption|exact bd (by with_unfolding_all rfl)|exact Or.inl rfl|exact Or.inl trivial|exact okL_map _ (fun _=>rfl) _|(simp only[VVlen]<;>omega)|fail) only[O1,VV0,VV1,VV2,VV3,VV4,VV5,VV6,VV7,VV8,VV9,mkFnV,vargs,slotsL,opdsA,Nat.reduceEqDiff,Nat.reduceLT,Nat.reduceAdd,Nat.reduceBEq,Int.reduceAdd,Int.reduceSub,Int.reduceLT,Int.reduceLE,Int.reduceEq,Int.reduceNeg,↓reduceIte,reduceCtorEq,scL,scD,expand,List.replicate,c65]
 refine callV_flat (by rw[hC];exact indexF_p w n _ s s' L hL f caps F (h _ rfl)) ?_
 repeat' (first|(simp (disch:=first|omega|assumption|exact bd (by with_unfolding_all rfl)|exact Or.inl rfl|exact Or.inl trivial|exact okL_map _ (fun _=>rfl) _|(simp only[VVlen]<;>omega)|fail) only[O1,VV0,VV1,VV2,VV3,VV4,VV5,VV6,VV7,VV8,VV9,mkFnV,vargs,slotsL,opdsA,Nat.reduceEqDiff,Nat.reduceLT,Nat.reduceAdd,Nat.reduceBEq,Int.reduceAdd,Int.reduceSub,Int.reduceLT,Int.reduceLE,Int.reduceEq,Int.reduceNeg,↓reduceIte,reduceCtorEq,scL,scD,expand,List.replicate])|((first|apply gI_dec|apply gG_dec|apply gPG_dec|apply gI_var|apply gG_var|apply gPG_var)<;>intro _))
 exact .refl _ _
theorem valid_p (s s':Nat) (q:Int) (L:List (List Bool)) (hs:s ≠ 1) (hL:L.length≤1000000) (hr:∀ k,k<L.length→L[k]!.length≤1000000) (hq: -1000000≤q∧q≤1000000):VSpec (EN w (n+4)) 52 [chainV s s' q L] (.sc (.bool (validS q L))) ⟨[],0,0⟩:=by
 refine vspec_flat rfl rfl (fun _ _=>rfl) (Nat.le_of_ble_eq_true rfl) (oldVals w) rfl fun C hC h0=>?_
 by_cases h1:1≤q∧q≤40∧2≤L.length∧L.length≤65
 case neg=>
  have e:validS q L=false:=by
   simp only[validS,decide_eq_false_iff_not];exact fun h=>h1 ⟨h.1,h.2.1,h.2.2.1,h.2.2.2.1⟩
  rw[e]
  repeat' (first|(simp (disch:=first|omega|assumption|exact bd (by with_unfolding_all rfl)|exact Or.inl rfl|exact Or.inl trivial|exact okL_map _ (fun _=>rfl) _|(simp only[VVlen]<;>omega)|fail) only[O1,VV0,VV1,VV2,VV3,VV4,VV5,VV6,VV7,VV8,VV9,mkFnV,vargs,slotsL,opdsA,Nat.reduceEqDiff,Nat.reduceLT,Nat.reduceAdd,Nat.reduceBEq,Int.reduceAdd,Int.reduceSub,Int.reduceLT,Int.reduceLE,Int.reduceEq,Int.reduceNeg,↓reduceIte,reduceCtorEq,scL,scD,expand,List.replicate,c52])|((first|apply gI_dec|apply gG_dec|apply gPG_dec|apply gI_var|apply gG_var|apply gPG_var)<;>intro _))
  all_goals try (exfalso;omega)
  all_goals exact weak_flat rfl h0 rfl
 have e:validS q L= !decide (0≤fIdx (fun k=>decide (¬ (L[k]!.length:Int)=q+1)) 0 L.length):=by
  rw[Bool.eq_iff_iff,Bool.not_eq_true',decide_eq_false_iff_not,fIdx_neg]
  simp only[validS,decide_eq_true_eq]
  constructor
  ·rintro ⟨_,_,_,_,h⟩ ⟨j,_,h2,h3⟩
   exact h3 (h j (by omega))
  ·intro h
   refine ⟨h1.1,h1.2.1,h1.2.2.1,h1.2.2.2,fun k hk=>?_⟩
   by_cases hh:(L[k]!.length:Int)=q+1
   ·exact hh
   ·exact absurd ⟨k,by omega,by omega,hh⟩ h
 rw[e]
 repeat' (first|(simp (disch:=first|omega|assumption|exact bd (by with_unfolding_all rfl)|exact Or.inl rfl|exact Or.inl trivial|exact okL_map _ (fun _=>rfl) _|(simp only[VVlen]<;>omega)|fail) only[O1,VV0,VV1,VV2,VV3,VV4,VV5,VV6,VV7,VV8,VV9,mkFnV,vargs,slotsL,opdsA,Nat.reduceEqDiff,Nat.reduceLT,Nat.reduceAdd,Nat.reduceBEq,Int.reduceAdd,Int.reduceSub,Int.reduceLT,Int.reduceLE,Int.reduceEq,Int.reduceNeg,↓reduceIte,reduceCtorEq,scL,scD,expand,List.replicate,c52])|((first|apply gI_dec|apply gG_dec|apply gPG_dec|apply gI_var|apply gG_var|apply gPG_var)<;>intro _))
 all_goals try (exfalso;omega)
 refine callV_flat (by
  rw[hC]
  exact containsF_p w (n+1) _ s s' L (by omega) 66 [.ptr 0 0] (fun k=>decide (¬ (L[k]!.length:Int)=q+1)) fun st' hst i hi=>validC_p w n st' 0 34 1 q _ s' L[i]! (by rw[hst];rfl) ⟨by omega,by omega⟩ (by have:=hr i hi;omega)) ?_
 repeat' (first|(simp (disch:=first|omega|assumption|exact bd (by with_unfolding_all rfl)|exact Or.inl rfl|exact Or.inl trivial|exact okL_map _ (fun _=>rfl) _|(simp only[VVlen]<;>omega)|fail) only[O1,VV0,VV1,VV2,VV3,VV4,VV5,VV6,VV7,VV8,VV9,mkFnV,vargs,slotsL,opdsA,Nat.reduceEqDiff,Nat.reduceLT,Nat.reduceAdd,Nat.reduceBEq,Int.reduceAdd,Int.reduceSub,Int.reduceLT,Int.reduceLE,Int.reduceEq,Int.reduceNeg,↓reduceIte,reduceCtorEq,scL,scD,expand,List.replicate])|((first|apply gI_dec|apply gG_dec|apply gPG_dec|apply gI_var|apply gG_var|apply gPG_var)<;>intro _))
 exact weak_flat rfl h0 rfl
end
end Go.Proofs.YtepdkmdcainddaaDoor
namespace Go.Proofs.YtepdkmdcainddaaDoor
open Go Go.Itp
set_option maxRecDepth 100000
set_option maxHeartbeats 2000000
set_option linter.unusedSimpArgs false
set_option linter.unusedVariables false
theorem snap_agg2 {H:VHp} {o n:Nat} {t:TypeId} {z:Bool} {a:Value} {l:List D} (h:aget H o=some (.gro t 1 z l)) (hl:l.length=n):snapL H [.agg [.sc a,.gr 2 o n]]=some [.agg [.sc a,.sl 2 n l]]:=by
 have h1:=snap_grD (n:=n) h hl
 generalize V.gr 2 o n=v at*
 simp[snapV,snapL,h1]
theorem at_mid (p r:List UInt8) (b:UInt8):(p++b::r)[p.length]! =b:=by
 rw[getElem!_pos _ _ (by simp),List.getElem_append_right (Nat.le_refl _)]
 simp
theorem u8_eq (b:UInt8) (k:Nat) (hk:k<256):(((b.toNat:Nat):Int)=(k:Int))↔b=UInt8.ofNat k:=by
 constructor
 ·intro h
  apply UInt8.toNat_inj.1
  rw[UInt8.toNat_ofNat']
  omega
 ·rintro rfl
  rw[UInt8.toNat_ofNat']
  omega
theorem rowD_snoc (cs:List (List Bool)) (c:List Bool):(cs++ [c]).map (rowD 2)=cs.map (rowD 2)++ [D.sl 2 c.length (c.map bD)]:=by simp[rowD]
section
variable (w:World) (n:Nat)
end
end Go.Proofs.YtepdkmdcainddaaDoor
namespace Go.Proofs.YtepdkmdcainddaaDoor
open Go Go.Itp
set_option maxRecDepth 100000
set_option maxHeartbeats 2000000
set_option linter.unusedSimpArgs false
set_option linter.unusedVariables false
theorem eqNilS_gr0 (g:Bool) (o:Nat):eqNilV 1 g (.gr 2 o 0) (.sc (.slice none 0 0))=some (.sc (.bool (!g))):=by
 rw[eqNilV_nil g _ (Nat.beq 0 0) rfl]
 cases g<;>rfl
theorem get_pos (s p r:List UInt8) (b:UInt8) (hs:s=p++b::r):(ByteArray.mk s.toArray).get! p.length=b:=by
 rw[get_l s p.length (by rw[hs];simp),hs,at_mid]
theorem next_small (s p r:List UInt8) (b:UInt8) (hs:s=p++b::r) (hb:b.toNat<128) (hl:s.length≤100000) (H:VHp) (nx o:Nat) (ho:aget H o=some (itO ⟨s.toArray⟩ p.length)):
  vnext ⟨H,nx,0⟩ (.ptr o 0)=some (.tup [.sc (.bool true),.sc (.int .i64 p.length),.sc (.int .i32 b.toNat)],⟨aset H o (itO ⟨s.toArray⟩ (p.length+1)),nx,0⟩):=by
 have hsz:=mk_size s
 have hpl:s.length=p.length+(r.length+1):=by rw[hs];simp
 have hd:=decode_small (s:=⟨s.toArray⟩) (i:=p.length) (by rw[get_pos s p r b hs];exact hb)
 rw[get_pos s p r b hs] at hd
 have:=vnext_more (st:=⟨H,nx,0⟩) o ⟨s.toArray⟩ p.length ho (Nat.zero_le _) (by omega) (by omega)
 rw[hd] at this
 exact this
theorem next_big (s p r:List UInt8) (b:UInt8) (hs:s=p++b::r) (hb:¬ b.toNat<128) (hl:s.length≤100000) (H:VHp) (nx o:Nat) (ho:aget H o=some (itO ⟨s.toArray⟩ p.length)):
  ∃ u k:Nat,128≤u∧vnext ⟨H,nx,0⟩ (.ptr o 0)=some (.tup [.sc (.bool true),.sc (.int .i64 p.length),.sc (.int .i32 u)],⟨aset H o (itO ⟨s.toArray⟩ k),nx,0⟩):=by
 have hsz:=mk_size s
 have hpl:s.length=p.length+(r.length+1):=by rw[hs];simp
 have hd:=decode_big (s:=⟨s.toArray⟩) (i:=p.length) (by rw[get_pos s p r b hs];exact hb)
 exact ⟨_,_,hd,vnext_more (st:=⟨H,nx,0⟩) o ⟨s.toArray⟩ p.length ho (Nat.zero_le _) (by omega) (by omega)⟩
theorem next_end (s:List UInt8) (hl:s.length≤100000) (H:VHp) (nx o:Nat) (ho:aget H o=some (itO ⟨s.toArray⟩ s.length)):vnext ⟨H,nx,0⟩ (.ptr o 0)=some (.tup [.sc (.bool false)],⟨H,nx,0⟩):=by
 have hsz:=mk_size s
 exact vnext_end (st:=⟨H,nx,0⟩) o ⟨s.toArray⟩ s.length ho (Nat.zero_le _) (by omega) (by omega) (by omega)
abbrev chnH (g:Nat) (s:List UInt8) (pos:Nat) (cs:List (List Bool)) (c:List Bool):VHp:=
 [(4,.gro 4 1 false (c.map bD)),(3,.gro 22 1 false (cs.map (rowD 2))),(2,itO ⟨s.toArray⟩ pos),(1,.box 34 1 [.sc (.int .i64 0),.gr 2 3 cs.length]),(0,.box 34 1 [.sc (.int .i64 0),.sc (.slice none 0 0)])]
section
variable (w:World) (n:Nat)
theorem parse_p (s:List UInt8) (hl:s.length≤100000):VSpec (EN w (n+5)) 27 [strV s] (chainR (parse18 s)) ⟨[],0,0⟩:=by
 refine vspec_g rfl rfl (fun _ _=>rfl) (Nat.le_of_ble_eq_true rfl) (oldVals w) (retOK_chain _) rfl fun C hC h0=>?_
 have hsz:=mk_size s
 have hrn:C.E.rounds=many:=by rw[hC,callP_rounds]
 have hrs:=fun nx=>rangeSV_str nx ⟨s.toArray⟩ (by omega)
 repeat' (first|(simp (disch:=first|omega|assumption|exact bd (by with_unfolding_all rfl)|exact Or.inl rfl|exact Or.inl trivial|exact okL_map _ (fun _=>rfl) _|(simp only[VVlen]<;>omega)|fail) only[O1,VV0,VV1,VV2,VV3,VV4,VV5,VV6,VV7,VV8,VV9,mkFnV,vargs,slotsL,opdsA,Nat.reduceEqDiff,Nat.reduceLT,Nat.reduceAdd,Nat.reduceBEq,Int.reduceAdd,Int.reduceSub,Int.reduceLT,Int.reduceLE,Int.reduceEq,Int.reduceNeg,↓reduceIte,reduceCtorEq,scL,scD,expand,List.replicate,c27,pv_rangeS,hrs])|((first|apply gI_dec|apply gG_dec|apply gPG_dec|apply gI_var|apply gG_var|apply gPG_var)<;>intro _))
 refine g_while (fun m fr st=>∃ (cs:List (List Bool)) (c:List Bool) (p r:List UInt8),m=r.length∧s=p++r∧cs.length+c.length≤p.length∧(∀ k,k<cs.length→cs[k]!.length≤100000)∧parseP s [] []=parseP r cs c∧fr= [(2,.ptr 0 0),(4,.ptr 1 0),(5,.gr 2 4 c.length),(9,.ptr 2 0)]∧
   st=⟨chnH 0 s p.length cs c,5,0⟩) s.length ?_
   ⟨_,_,(weak_nilCell (C:=C) (l:= [.sc (.int .i64 0),.sc (.slice none 0 0)]) 1 34 1 1 22 1 rfl rfl (fun h=>absurd (show (1:Nat)=3 from h) (by decide))).trans (weak_nilSlot 5 4 1 rfl),[],[],[],s,rfl,rfl,Nat.le_refl _,fun k hk=>absurd hk (Nat.not_lt_zero _),rfl,rfl,rfl⟩ ?_
 ·rw[hrn];unfold many;omega
 rintro m fr st ⟨cs,c,p,r,rfl,hs,hcl,hcb,hps,rfl,rfl⟩
 have hpl:s.length=p.length+r.length:=by rw[hs];simp
 have hcm:(cs.map (rowD 2)).length=cs.length:=by rw[List.length_map]
 have hcm2:(c.map bD).length=c.length:=by rw[List.length_map]
 cases r with
 |nil=>
  have hq0:([]:List UInt8).length=0:=rfl
  have hnx:=next_end s hl (chnH 0 s p.length cs c) 5 2 (by rw[show s.length=p.length by omega];rfl)
  have hps2:parse18 s=if c= []∧validS (lastL cs) cs=true then some (lastL cs,cs) else none:=by
   unfold parse18
   rw[hps]
   rfl
  by_cases hc:c= []
  case neg=>
   have hcn:c.length ≠ 0:=fun e=>hc (List.eq_nil_of_length_eq_zero e)
   rw[if_neg (fun h=>hc h.1)] at hps2
   rw[hps2]
   repeat' (first|(simp (disch:=first|omega|assumption|exact bd (by with_unfolding_all rfl)|exact Or.inl rfl|exact Or.inl trivial|exact okL_map _ (fun _=>rfl) _|(simp only[VVlen]<;>omega)|fail) only[O1,VV0,VV1,VV2,VV3,VV4,VV5,VV6,VV7,VV8,VV9,mkFnV,vargs,slotsL,opdsA,Nat.reduceEqDiff,Nat.reduceLT,Nat.reduceAdd,Nat.reduceBEq,Int.reduceAdd,Int.reduceSub,Int.reduceLT,Int.reduceLE,Int.reduceEq,Int.reduceNeg,↓reduceIte,reduceCtorEq,scL,scD,expand,List.replicate,c27l0,pv_nextS,wv_nextS,hnx,eqNilS_gr])|((first|apply gI_dec|apply gG_dec|apply gPG_dec|apply gI_var|apply gG_var|apply gPG_var)<;>intro _))
   exact weak_finA2Nil h0 rfl
  subst hc
  have hc0:([]:List Bool).length=0:=rfl
  by_cases hcs:cs= []
  ·subst hcs
   rw[hps2,if_neg (fun h=>absurd h.2 (by decide))]
   repeat' (first|(simp (disch:=first|omega|assumption|exact bd (by with_unfolding_all rfl)|exact Or.inl rfl|exact Or.inl trivial|exact okL_map _ (fun _=>rfl) _|(simp only[VVlen]<;>omega)|fail) only[O1,VV0,VV1,VV2,VV3,VV4,VV5,VV6,VV7,VV8,VV9,mkFnV,vargs,slotsL,opdsA,Nat.reduceEqDiff,Nat.reduceLT,Nat.reduceAdd,Nat.reduceBEq,Int.reduceAdd,Int.reduceSub,Int.reduceLT,Int.reduceLE,Int.reduceEq,Int.reduceNeg,↓reduceIte,reduceCtorEq,scL,scD,expand,List.replicate,c27l0,pv_nextS,wv_nextS,hnx,eqNilS_gr0])|((first|apply gI_dec|apply gG_dec|apply gPG_dec|apply gI_var|apply gG_var|apply gPG_var)<;>intro _))
   exact weak_finA2Nil h0 rfl
  have hcsl:=List.length_pos_iff.2 hcs
  have hcb0:=hcb 0 hcsl
  have hvp:=valid_p w n 2 2 ((cs[0]!.length:Int) - 1) cs (by decide) (by omega) (fun k hk=>by have:=hcb k hk;omega) ⟨by omega,by omega⟩
  have hvf:=valid_first cs
  have hsn:=fun (H:VHp) (h:aget H 3=some (.gro 22 1 false (cs.map (rowD 2))))=>snap_agg2 (a:= .int .i64 ((cs[0]!.length:Int) - 1)) h hcm
  by_cases hv:validS (lastL cs) cs=true
  ·rw[if_pos ⟨rfl,hv⟩] at hps2
   have hq:=(valid_head hv).1
   rw[hvf,hv] at hvp
   rw[hps2]
   repeat' (first|(simp (disch:=first|omega|assumption|exact bd (by with_unfolding_all rfl)|exact Or.inl rfl|exact Or.inl trivial|exact okL_map _ (fun _=>rfl) _|(simp only[VVlen]<;>omega)|fail) only[O1,VV0,VV1,VV2,VV3,VV4,VV5,VV6,VV7,VV8,VV9,mkFnV,vargs,slotsL,opdsA,Nat.reduceEqDiff,Nat.reduceLT,Nat.reduceAdd,Nat.reduceBEq,Int.reduceAdd,Int.reduceSub,Int.reduceLT,Int.reduceLE,Int.reduceEq,Int.reduceNeg,↓reduceIte,reduceCtorEq,scL,scD,expand,List.replicate,c27l0,pv_nextS,wv_nextS,hnx,eqNilS_gr0,rowD_dv,Int.toNat_zero])|((first|apply gI_dec|apply gG_dec|apply gPG_dec|apply gI_var|apply gG_var|apply gPG_var)<;>intro _))
   all_goals try (exfalso;omega)
   refine callV_flat (by rw[hC];exact hvp.flat rfl (hsn _ rfl)) ?_
   repeat' (first|(simp (disch:=first|omega|assumption|exact bd (by with_unfolding_all rfl)|exact Or.inl rfl|exact Or.inl trivial|exact okL_map _ (fun _=>rfl) _|(simp only[VVlen]<;>omega)|fail) only[O1,VV0,VV1,VV2,VV3,VV4,VV5,VV6,VV7,VV8,VV9,mkFnV,vargs,slotsL,opdsA,Nat.reduceEqDiff,Nat.reduceLT,Nat.reduceAdd,Nat.reduceBEq,Int.reduceAdd,Int.reduceSub,Int.reduceLT,Int.reduceLE,Int.reduceEq,Int.reduceNeg,↓reduceIte,reduceCtorEq,scL,scD,expand,List.replicate])|((first|apply gI_dec|apply gG_dec|apply gPG_dec|apply gI_var|apply gG_var|apply gPG_var)<;>intro _))
   rw[← hq]
   exact weak_finA2 (s:=2) (snap_grD rfl hcm) rfl (.inl (by decide)) h0 rfl
  ·rw[if_neg (fun h=>hv h.2)] at hps2
   rw[hvf,Bool.eq_false_iff.2 hv] at hvp
   rw[hps2]
   repeat' (first|(simp (disch:=first|omega|assumption|exact bd (by with_unfolding_all rfl)|exact Or.inl rfl|exact Or.inl trivial|exact okL_map _ (fun _=>rfl) _|(simp only[VVlen]<;>omega)|fail) only[O1,VV0,VV1,VV2,VV3,VV4,VV5,VV6,VV7,VV8,VV9,mkFnV,vargs,slotsL,opdsA,Nat.reduceEqDiff,Nat.reduceLT,Nat.reduceAdd,Nat.reduceBEq,Int.reduceAdd,Int.reduceSub,Int.reduceLT,Int.reduceLE,Int.reduceEq,Int.reduceNeg,↓reduceIte,reduceCtorEq,scL,scD,expand,List.replicate,c27l0,pv_nextS,wv_nextS,hnx,eqNilS_gr0,rowD_dv,Int.toNat_zero])|((first|apply gI_dec|apply gG_dec|apply gPG_dec|apply gI_var|apply gG_var|apply gPG_var)<;>intro _))
   all_goals try (exfalso;omega)
   refine callV_flat (by rw[hC];exact hvp.flat rfl (hsn _ rfl)) ?_
   repeat' (first|(simp (disch:=first|omega|assumption|exact bd (by with_unfolding_all rfl)|exact Or.inl rfl|exact Or.inl trivial|exact okL_map _ (fun _=>rfl) _|(simp only[VVlen]<;>omega)|fail) only[O1,VV0,VV1,VV2,VV3,VV4,VV5,VV6,VV7,VV8,VV9,mkFnV,vargs,slotsL,opdsA,Nat.reduceEqDiff,Nat.reduceLT,Nat.reduceAdd,Nat.reduceBEq,Int.reduceAdd,Int.reduceSub,Int.reduceLT,Int.reduceLE,Int.reduceEq,Int.reduceNeg,↓reduceIte,reduceCtorEq,scL,scD,expand,List.replicate])|((first|apply gI_dec|apply gG_dec|apply gPG_dec|apply gI_var|apply gG_var|apply gPG_var)<;>intro _))
   exact weak_finA2Nil h0 rfl
 |cons b r3=>
  have hq0:(b::r3).length=r3.length+1:=rfl
  have hpx1:(p++ [b]).length=p.length+1:=by simp
  have e111:=u8_eq b 111 (by decide)
  have e46:=u8_eq b 46 (by decide)
  have e10:=u8_eq b 10 (by decide)
  rw[parseP] at hps
  by_cases hbig:b.toNat<128
  case neg=>
   obtain ⟨u,k,hu,hnx⟩:=next_big s p r3 b hs hbig hl (chnH 0 s p.length cs c) 5 2 rfl
   have hps2:parse18 s=none:=by
    unfold parse18
    rw[hps,if_neg (by rintro (rfl|rfl)<;>exact hbig (by decide)),if_neg (by rintro rfl;exact hbig (by decide))]
   rw[hps2]
   repeat' (first|(simp (disch:=first|omega|assumption|exact bd (by with_unfolding_all rfl)|exact Or.inl rfl|exact Or.inl trivial|exact okL_map _ (fun _=>rfl) _|(simp only[VVlen]<;>omega)|fail) only[O1,VV0,VV1,VV2,VV3,VV4,VV5,VV6,VV7,VV8,VV9,mkFnV,vargs,slotsL,opdsA,Nat.reduceEqDiff,Nat.reduceLT,Nat.reduceAdd,Nat.reduceBEq,Int.reduceAdd,Int.reduceSub,Int.reduceLT,Int.reduceLE,Int.reduceEq,Int.reduceNeg,↓reduceIte,reduceCtorEq,scL,scD,expand,List.replicate,c27l0,pv_nextS,wv_nextS,hnx])|((first|apply gI_dec|apply gG_dec|apply gPG_dec|apply gI_var|apply gG_var|apply gPG_var)<;>intro _))
   all_goals try (exfalso;omega)
   exact weak_finA2Nil h0 rfl
  have hnx:=next_small s p r3 b hs hbig hl (chnH 0 s p.length cs c) 5 2 rfl
  by_cases h1:b=111
  ·rw[if_pos (.inl h1),decide_eq_true h1] at hps
   have i1:=e111.2 h1
   simp only[Int.cast_ofNat_Int] at i1
   repeat' (first|(simp (disch:=first|omega|assumption|exact bd (by with_unfolding_all rfl)|exact Or.inl rfl|exact Or.inl trivial|exact okL_map _ (fun _=>rfl) _|(simp only[VVlen]<;>omega)|fail) only[O1,VV0,VV1,VV2,VV3,VV4,VV5,VV6,VV7,VV8,VV9,mkFnV,vargs,slotsL,opdsA,Nat.reduceEqDiff,Nat.reduceLT,Nat.reduceAdd,Nat.reduceBEq,Int.reduceAdd,Int.reduceSub,Int.reduceLT,Int.reduceLE,Int.reduceEq,Int.reduceNeg,↓reduceIte,reduceCtorEq,scL,scD,expand,List.replicate,c27l0,pv_nextS,wv_nextS,hnx,i1])|((first|apply gI_dec|apply gG_dec|apply gPG_dec|apply gI_var|apply gG_var|apply gPG_var)<;>intro _))
   all_goals try (exfalso;omega)
   refine ⟨_,_,_,?_,weak_to [(6,4),(3,3),(2,2),(1,1),(0,0)] 5 h0 rfl rfl rfl rfl,cs,c++ [true],p++ [b],r3,rfl,by rw[hs];simp,?_,hcb,hps,?_,?_⟩
   ·omega
   ·rw[hpx1,show (c++ [true]).length=c.length+1 by simp];omega
   ·rw[show (c++ [true]).length=c.length+1 by simp];rfl
   ·rw[hpx1,chnH,List.map_append];rfl
  by_cases h2:b=46
  ·rw[if_pos (.inr h2),decide_eq_false h1] at hps
   have i1:=e46.2 h2
   simp only[Int.cast_ofNat_Int] at i1
   repeat' (first|(simp (disch:=first|omega|assumption|exact bd (by with_unfolding_all rfl)|exact Or.inl rfl|exact Or.inl trivial|exact okL_map _ (fun _=>rfl) _|(simp only[VVlen]<;>omega)|fail) only[O1,VV0,VV1,VV2,VV3,VV4,VV5,VV6,VV7,VV8,VV9,mkFnV,vargs,slotsL,opdsA,Nat.reduceEqDiff,Nat.reduceLT,Nat.reduceAdd,Nat.reduceBEq,Int.reduceAdd,Int.reduceSub,Int.reduceLT,Int.reduceLE,Int.reduceEq,Int.reduceNeg,↓reduceIte,reduceCtorEq,scL,scD,expand,List.replicate,c27l0,pv_nextS,wv_nextS,hnx,i1])|((first|apply gI_dec|apply gG_dec|apply gPG_dec|apply gI_var|apply gG_var|apply gPG_var)<;>intro _))
   all_goals try (exfalso;omega)
   refine ⟨_,_,_,?_,weak_to [(6,4),(3,3),(2,2),(1,1),(0,0)] 5 h0 rfl rfl rfl rfl,cs,c++ [false],p++ [b],r3,rfl,by rw[hs];simp,?_,hcb,hps,?_,?_⟩
   ·omega
   ·rw[hpx1,show (c++ [false]).length=c.length+1 by simp];omega
   ·rw[show (c++ [false]).length=c.length+1 by simp];rfl
   ·rw[hpx1,chnH,List.map_append];rfl
  have i1:¬ ((b.toNat:Nat):Int)=111:=fun h=>h1 (e111.1 h)
  have i2:¬ ((b.toNat:Nat):Int)=46:=fun h=>h2 (e46.1 h)
  rw[if_neg (fun h=>h.elim h1 h2)] at hps
  by_cases h3:b=10
  ·have i3:=e10.2 h3
   simp only[Int.cast_ofNat_Int] at i3
   rw[if_pos h3] at hps
   have hr1:=rowD_snoc cs c
   repeat' (first|(simp (disch:=first|omega|assumption|exact bd (by with_unfolding_all rfl)|exact Or.inl rfl|exact Or.inl trivial|exact okL_map _ (fun _=>rfl) _|(simp only[VVlen]<;>omega)|fail) only[O1,VV0,VV1,VV2,VV3,VV4,VV5,VV6,VV7,VV8,VV9,mkFnV,vargs,slotsL,opdsA,Nat.reduceEqDiff,Nat.reduceLT,Nat.reduceAdd,Nat.reduceBEq,Int.reduceAdd,Int.reduceSub,Int.reduceLT,Int.reduceLE,Int.reduceEq,Int.reduceNeg,↓reduceIte,reduceCtorEq,scL,scD,expand,List.replicate,c27l0,pv_nextS,wv_nextS,hnx,i1,i2,i3])|((first|apply gI_dec|apply gG_dec|apply gPG_dec|apply gI_var|apply gG_var|apply gPG_var)<;>intro _))
   all_goals try (exfalso;omega)
   refine ⟨_,_,_,?_,(weak_to [(6,3),(2,2),(1,1),(0,0)] 4 h0 rfl rfl rfl rfl).trans (weak_nilSlot 5 4 1 rfl),cs++ [c],[],p++ [b],r3,rfl,by rw[hs];simp,?_,?_,hps,?_,?_⟩
   ·omega
   ·rw[List.length_append,hpx1];simp;omega
   ·intro k hk
    by_cases hkc:k<cs.length
    ·rw[getElem!_pos _ k hk,List.getElem_append_left hkc,← getElem!_pos cs k hkc]
     exact hcb k hkc
    ·rw[getElem!_pos _ k hk,List.getElem_append_right (by omega),List.getElem_singleton]
     omega
   ·rfl
   ·rw[hpx1,chnH,hr1,List.length_append];rfl
  ·have i3:¬ ((b.toNat:Nat):Int)=10:=fun h=>h3 (e10.1 h)
   rw[if_neg h3] at hps
   have hps2:parse18 s=none:=by
    unfold parse18
    rw[hps]
   rw[hps2]
   repeat' (first|(simp (disch:=first|omega|assumption|exact bd (by with_unfolding_all rfl)|exact Or.inl rfl|exact Or.inl trivial|exact okL_map _ (fun _=>rfl) _|(simp only[VVlen]<;>omega)|fail) only[O1,VV0,VV1,VV2,VV3,VV4,VV5,VV6,VV7,VV8,VV9,mkFnV,vargs,slotsL,opdsA,Nat.reduceEqDiff,Nat.reduceLT,Nat.reduceAdd,Nat.reduceBEq,Int.reduceAdd,Int.reduceSub,Int.reduceLT,Int.reduceLE,Int.reduceEq,Int.reduceNeg,↓reduceIte,reduceCtorEq,scL,scD,expand,List.replicate,c27l0,pv_nextS,wv_nextS,hnx,i1,i2,i3])|((first|apply gI_dec|apply gG_dec|apply gPG_dec|apply gI_var|apply gG_var|apply gPG_var)<;>intro _))
   all_goals try (exfalso;omega)
   exact weak_finA2Nil h0 rfl
end
end Go.Proofs.YtepdkmdcainddaaDoor
namespace Go.Proofs.YtepdkmdcainddaaDoor
open Go Go.Itp
set_option maxRecDepth 100000
set_option linter.unusedSimpArgs false
set_option linter.unusedVariables false
def sel (pr:Nat→Bool):Nat→List Int
 |0=> []
 |k+1=>if pr k then sel pr k++ [(k:Int)] else sel pr k
theorem sel_le (pr:Nat→Bool):∀ k,(sel pr k).length≤k
 |0=>Nat.le_refl _
 |k+1=>by
  have:=sel_le pr k
  simp only[sel];split<;>simp<;>omega
def cardP (V:List (List Bool)) (y:Nat):Bool:=oddTo (fun x=>V[y]![x]!) V[y]!.length
def placeP (V:List (List Bool)) (x:Nat):Bool:=oddTo (fun y=>V[y]![x]!) V.length
def wrongE (q:Int) (V:List (List Bool)):Int:=if validS q V then 0 else 8
def wrongA (q:Int) (V:List (List Bool)):List Int:=if validS q V then sel (cardP V) V.length else []
def wrongB (q:Int) (V:List (List Bool)):List Int:=if validS q V then sel (placeP V) (q+1).toNat else []
theorem valid_out {q:Int} {V:List (List Bool)} (h:validS q V=true):1≤q∧q≤40∧2≤V.length∧V.length≤65∧∀ k,k<V.length→(V[k]!.length:Int)=q+1:=of_decide_eq_true h
theorem encV_row (B:List Bool) (Q K k:Nat) (hk:k<K+1):((encV B Q K)[k]!).length=Q+1:=by
 unfold encV
 by_cases e:k=K
 ·subst e
  rw[get_app_r _ _ _ (by rw[encRows_len];exact Nat.le_refl _) (by rw[encRows_len];simp),encRows_len,Nat.sub_self]
  exact lastTo_len B Q k (Q+1) (Nat.le_refl _)
 ·rw[get_app_l _ _ _ (by rw[encRows_len];omega)]
  exact encRows_row B Q K k (by omega)
theorem oddTo_last {p:Nat→Bool} {k:Nat} (h:p k=oddTo p k):oddTo p (k+1)=false:=by
 simp only[oddTo,h]
 cases oddTo p k<;>rfl
theorem encV_old (B:List Bool) (Q K k:Nat) (hk:k<K):(encV B Q K)[k]! =fullRow B Q k:=by
 unfold encV
 rw[get_app_l _ _ _ (by rw[encRows_len];exact hk),getElem!_pos _ k (by rw[encRows_len];exact hk)]
 simp[encRows]
theorem encV_last (B:List Bool) (Q K:Nat):(encV B Q K)[K]! =lastTo B Q K (Q+1):=by
 unfold encV
 rw[get_app_r _ _ _ (by rw[encRows_len];exact Nat.le_refl _) (by rw[encRows_len];simp),encRows_len,Nat.sub_self]
 rfl
theorem fullRow_even (B:List Bool) (Q k:Nat):oddTo (fun x=>(fullRow B Q k)[x]!) (Q+1)=false:=by
 refine oddTo_last ?_
 have hl:=bitsRow_len B Q k
 have e1:(fullRow B Q k)[Q]! =oddTo (fun x=>(bitsRow B Q k++ [false])[x]!) Q:=by
  unfold fullRow
  rw[get_app_r _ _ _ (by omega) (by simp;omega),hl,Nat.sub_self]
  rfl
 rw[e1]
 refine oddTo_congr Q fun i hi=>?_
 unfold fullRow
 rw[get_app_l _ _ _ (by omega),get_app_l _ _ _ (by omega)]
theorem lastTo_get (B:List Bool) (Q K x:Nat) (hx:x<Q+1):(lastTo B Q K (Q+1))[x]! =colV B Q K x:=by
 unfold lastTo
 rw[get_app_l _ _ _ (by simpa using hx),getElem!_pos _ x (by simpa using hx)]
 simp
theorem encCol_even (B:List Bool) (Q K x:Nat) (hx:x<Q+1):oddTo (fun y=>(encV B Q K)[y]![x]!) (K+1)=false:=by
 refine oddTo_last ?_
 show (encV B Q K)[K]![x]! =_
 rw[encV_last,lastTo_get B Q K x hx]
 refine oddTo_congr K fun i hi=>?_
 rw[encV_old B Q K i hi,getElem!_pos _ i (by rw[encRows_len];exact hi)]
 simp[encRows]
theorem oddTo_false:∀ k,oddTo (fun _=>false) k=false
 |0=>rfl
 |k+1=>by simp only[oddTo,oddTo_false k];rfl
theorem oddTo_xor (a b:Nat→Bool):∀ k,oddTo (fun x=> !(a x==b x)) k= !(oddTo a k==oddTo b k)
 |0=>rfl
 |k+1=>by
  simp only[oddTo,oddTo_xor a b k]
  cases oddTo a k<;>cases oddTo b k<;>cases a k<;>cases b k<;>rfl
theorem oddTo_swap (f:Nat→Nat→Bool) (Q:Nat):∀ K,oddTo (fun x=>oddTo (fun y=>f y x) K) Q=oddTo (fun y=>oddTo (fun x=>f y x) Q) K
 |0=>oddTo_false Q
 |K+1=>by
  have h1:(fun x=>oddTo (fun y=>f y x) (K+1))=fun x=> !(oddTo (fun y=>f y x) K==f K x):=rfl
  rw[h1,oddTo_xor,oddTo_swap f Q K]
  rfl
theorem encRows_get (B:List Bool) (Q K y:Nat) (hy:y<K):(encRows B Q K)[y]! =fullRow B Q y:=by
 rw[getElem!_pos _ y (by rw[encRows_len];exact hy)]
 simp[encRows]
theorem encV_card (B:List Bool) (Q K y:Nat) (hy:y<K+1):cardP (encV B Q K) y=false:=by
 unfold cardP
 rw[encV_row B Q K y hy]
 by_cases e:y=K
 ·subst e
  rw[encV_last]
  have h1:oddTo (fun x=>(lastTo B Q y (Q+1))[x]!) (Q+1)=oddTo (fun x=>oddTo (fun z=>(encRows B Q y)[z]![x]!) y) (Q+1):=oddTo_congr (Q+1) fun x hx=>lastTo_get B Q y x hx
  rw[h1,oddTo_swap (fun z x=>(encRows B Q y)[z]![x]!) (Q+1) y]
  rw[oddTo_congr (q:=fun _=>false) y fun z hz=>by
   show oddTo (fun x=>(encRows B Q y)[z]![x]!) (Q+1)=false
   rw[encRows_get B Q y z hz]
   exact fullRow_even B Q z]
  exact oddTo_false y
 ·rw[encV_old B Q K y (by omega)]
  exact fullRow_even B Q y
theorem encV_place (B:List Bool) (Q K x:Nat) (hx:x<Q+1):placeP (encV B Q K) x=false:=by
 unfold placeP
 rw[encV_len]
 exact encCol_even B Q K x hx
theorem sel_none {p:Nat→Bool}:∀ k,(∀ i,i<k→p i=false)→sel p k= []
 |0,_=>rfl
 |k+1,h=>by simp[sel,sel_none k (fun i hi=>h i (by omega)),h k (by omega)]
theorem enc_valid (B:List Bool) (Q K:Nat) (hQ:1≤Q∧Q≤40) (hK:1≤K∧K≤64):validS Q (encV B Q K)=true:=by
 have hl:=encV_len B Q K
 refine decide_yes ⟨by omega,by omega,by omega,by omega,fun k hk=>?_⟩
 rw[encV_row B Q K k (by omega)]
 simp
end Go.Proofs.YtepdkmdcainddaaDoor
namespace Go.Proofs.YtepdkmdcainddaaDoor
open Go Go.Itp
set_option maxRecDepth 100000
set_option maxHeartbeats 2000000
set_option linter.unusedSimpArgs false
set_option linter.unusedVariables false
def wrongV (q:Int) (L:List (List Bool)):V:= .tup [.sl 3 (wrongA q L).length ((wrongA q L).map iD),.sl 3 (wrongB q L).length ((wrongB q L).map iD),.sc (.int .i64 (wrongE q L))]
theorem sel_yes (p:Nat→Bool) (k:Nat) (h:p k=true):sel p (k+1)=sel p k++ [(k:Int)]:=by simp[sel,h]
theorem sel_no (p:Nat→Bool) (k:Nat) (h:p k=false):sel p (k+1)=sel p k:=by simp[sel,h]
section
variable (w:World) (n:Nat)
theorem wr1_p (st:VSt) (o t e s:Nat) (l:List Bool) (h1:aget st.own o=some (.box t e [.sl s l.length (l.map bD)])) (i:Nat) (hi:i<l.length) (hl:l.length≤1000000):
  VSpecO (EN w (n+1)) 54 st [.sc (.int .i64 i),.ptr o 0] (.sc (.bool l[i]!)):=by
 refine vspecO_g rfl rfl (fun _ _=>rfl) (Nat.le_of_ble_eq_true rfl) rfl fun C hC h0=>⟨⟨st.own,st.next,st.next⟩,?_⟩
 repeat' (first|(simp (disch:=first|omega|assumption|exact bd (by with_unfolding_all rfl)|exact Or.inl rfl|exact Or.inl trivial|exact okL_map _ (fun _=>rfl) _|(simp only[VVlen]<;>omega)|fail) only[O1,VV0,VV1,VV2,VV3,VV4,VV5,VV6,VV7,VV8,VV9,mkFnV,vargs,slotsL,opdsA,Nat.reduceEqDiff,Nat.reduceLT,Nat.reduceAdd,Nat.reduceBEq,Int.reduceAdd,Int.reduceSub,Int.reduceLT,Int.reduceLE,Int.reduceEq,Int.reduceNeg,↓reduceIte,reduceCtorEq,scL,scD,expand,List.replicate,c54,h1,bD_dv])|((first|apply gI_dec|apply gG_dec|apply gPG_dec|apply gI_var|apply gG_var|apply gPG_var)<;>intro _))
 exact .refl _ _
theorem wr2_p (st:VSt) (o o3 t e t2 e2 s s':Nat) (q:Value) (x:Nat) (L:List (List Bool)) (h1:aget st.own o=some (.box t e [.sc q,.sl s L.length (L.map (rowD s'))])) (h3:aget st.own o3=some (.box t2 e2 [.sc (.int .i64 x)]))
  (i:Nat) (hi:i<L.length) (hx2:x<L[i]!.length) (hL:L.length≤1000000) (hr:L[i]!.length≤1000000):
  VSpecO (EN w (n+1)) 55 st [.sc (.int .i64 i),.ptr o 0,.ptr o3 0] (.sc (.bool L[i]![x]!)):=by
 refine vspecO_g rfl rfl (fun _ _=>rfl) (Nat.le_of_ble_eq_true rfl) rfl fun C hC h0=>⟨⟨st.own,st.next,st.next⟩,?_⟩
 repeat' (first|(simp (disch:=first|omega|assumption|exact bd (by with_unfolding_all rfl)|exact Or.inl rfl|exact Or.inl trivial|exact okL_map _ (fun _=>rfl) _|(simp only[VVlen]<;>omega)|fail) only[O1,VV0,VV1,VV2,VV3,VV4,VV5,VV6,VV7,VV8,VV9,mkFnV,vargs,slotsL,opdsA,Nat.reduceEqDiff,Nat.reduceLT,Nat.reduceAdd,Nat.reduceBEq,Int.reduceAdd,Int.reduceSub,Int.reduceLT,Int.reduceLE,Int.reduceEq,Int.reduceNeg,↓reduceIte,reduceCtorEq,scL,scD,expand,List.replicate,c55,h1,h3,bD_dv,rowD_dv])|((first|apply gI_dec|apply gG_dec|apply gPG_dec|apply gI_var|apply gG_var|apply gPG_var)<;>intro _))
 exact .refl _ _
theorem wrong_p (s s':Nat) (q:Int) (L:List (List Bool)) (hs:s ≠ 1) (hL:L.length≤1000) (hr:∀ k,k<L.length→L[k]!.length≤1000) (hq: -1000000≤q∧q≤1000000):
  VSpec (EN w (n+5)) 30 [chainV s s' q L] (wrongV q L) ⟨[],0,0⟩:=by
 refine vspec_g rfl rfl (fun _ _=>rfl) (Nat.le_of_ble_eq_true rfl) (oldVals w) retOK_fin2 rfl fun C hC h0=>?_
 have hv:=valid_p w n s s' q L hs (by omega) (fun k hk=>by have:=hr k hk;omega) hq
 have hrn:C.E.rounds=many:=by rw[hC,callP_rounds]
 cases hval:validS q L with
 |false=>
  have e:wrongV q L= .tup [.sl 3 0 [],.sl 3 0 [],.sc (.int .i64 8)]:=by simp[wrongV,wrongA,wrongB,wrongE,hval]
  rw[hval] at hv
  rw[e]
  repeat' (first|(simp (disch:=first|omega|assumption|exact bd (by with_unfolding_all rfl)|exact Or.inl rfl|exact Or.inl trivial|exact okL_map _ (fun _=>rfl) _|(simp only[VVlen]<;>omega)|fail) only[O1,VV0,VV1,VV2,VV3,VV4,VV5,VV6,VV7,VV8,VV9,mkFnV,vargs,slotsL,opdsA,Nat.reduceEqDiff,Nat.reduceLT,Nat.reduceAdd,Nat.reduceBEq,Int.reduceAdd,Int.reduceSub,Int.reduceLT,Int.reduceLE,Int.reduceEq,Int.reduceNeg,↓reduceIte,reduceCtorEq,scL,scD,expand,List.replicate,c30])|((first|apply gI_dec|apply gG_dec|apply gPG_dec|apply gI_var|apply gG_var|apply gPG_var)<;>intro _))
  refine callV_flat (by rw[hC];exact hv.flat rfl rfl) ?_
  repeat' (first|(simp (disch:=first|omega|assumption|exact bd (by with_unfolding_all rfl)|exact Or.inl rfl|exact Or.inl trivial|exact okL_map _ (fun _=>rfl) _|(simp only[VVlen]<;>omega)|fail) only[O1,VV0,VV1,VV2,VV3,VV4,VV5,VV6,VV7,VV8,VV9,mkFnV,vargs,slotsL,opdsA,Nat.reduceEqDiff,Nat.reduceLT,Nat.reduceAdd,Nat.reduceBEq,Int.reduceAdd,Int.reduceSub,Int.reduceLT,Int.reduceLE,Int.reduceEq,Int.reduceNeg,↓reduceIte,reduceCtorEq,scL,scD,expand,List.replicate])|((first|apply gI_dec|apply gG_dec|apply gPG_dec|apply gI_var|apply gG_var|apply gPG_var)<;>intro _))
  exact weak_finNil2 h0 rfl
 |true=>
  obtain ⟨q1,q2,q3,q4,q5⟩:=valid_out hval
  obtain ⟨Q,rfl⟩:∃ Q:Nat,q=Q:=⟨q.toNat,by omega⟩
  have e:wrongV Q L= .tup [.sl 3 (sel (cardP L) L.length).length ((sel (cardP L) L.length).map iD),.sl 3 (sel (placeP L) (Q+1)).length ((sel (placeP L) (Q+1)).map iD),.sc (.int .i64 0)]:=by
   have:((Q:Int)+1).toNat=Q+1:=by omega
   simp[wrongV,wrongA,wrongB,wrongE,hval,this]
  rw[hval] at hv
  rw[e]
  repeat' (first|(simp (disch:=first|omega|assumption|exact bd (by with_unfolding_all rfl)|exact Or.inl rfl|exact Or.inl trivial|exact okL_map _ (fun _=>rfl) _|(simp only[VVlen]<;>omega)|fail) only[O1,VV0,VV1,VV2,VV3,VV4,VV5,VV6,VV7,VV8,VV9,mkFnV,vargs,slotsL,opdsA,Nat.reduceEqDiff,Nat.reduceLT,Nat.reduceAdd,Nat.reduceBEq,Int.reduceAdd,Int.reduceSub,Int.reduceLT,Int.reduceLE,Int.reduceEq,Int.reduceNeg,↓reduceIte,reduceCtorEq,scL,scD,expand,List.replicate,c30])|((first|apply gI_dec|apply gG_dec|apply gPG_dec|apply gI_var|apply gG_var|apply gPG_var)<;>intro _))
  refine callV_flat (by rw[hC];exact hv.flat rfl rfl) ?_
  repeat' (first|(simp (disch:=first|omega|assumption|exact bd (by with_unfolding_all rfl)|exact Or.inl rfl|exact Or.inl trivial|exact okL_map _ (fun _=>rfl) _|(simp only[VVlen]<;>omega)|fail) only[O1,VV0,VV1,VV2,VV3,VV4,VV5,VV6,VV7,VV8,VV9,mkFnV,vargs,slotsL,opdsA,Nat.reduceEqDiff,Nat.reduceLT,Nat.reduceAdd,Nat.reduceBEq,Int.reduceAdd,Int.reduceSub,Int.reduceLT,Int.reduceLE,Int.reduceEq,Int.reduceNeg,↓reduceIte,reduceCtorEq,scL,scD,expand,List.replicate])|((first|apply gI_dec|apply gG_dec|apply gPG_dec|apply gI_var|apply gG_var|apply gPG_var)<;>intro _))
  refine g_while (fun m fr st=>∃ k:Nat,m=L.length - k∧k≤L.length∧fr= [(1,.ptr 0 0),(2,.gr 2 1 (sel (cardP L) k).length),(3,.sc (.slice none 0 0)),(12,.sl s L.length (L.map (rowD s'))),(13,.sc (.int .i64 L.length)),(14,.sc (.int .i64 k))]∧
   st=⟨[(1,.gro 3 1 false ((sel (cardP L) k).map iD)),(0,.box 34 1 [.sc (.int .i64 Q),.sl s L.length (L.map (rowD s'))])],2,0⟩) L.length ?_ ⟨_,_,weak_nilSlot 2 3 1 rfl,0,by omega,Nat.zero_le _,rfl,rfl⟩ ?_
  ·rw[hrn];unfold many;omega
  rintro m fr st ⟨k,rfl,hk,rfl,rfl⟩
  have hsl:=sel_le (cardP L) k
  have hsm:((sel (cardP L) k).map iD).length=(sel (cardP L) k).length:=by rw[List.length_map]
  by_cases hlt:k<L.length
  ·have hrk:=hr k hlt
   have hodd:=fun (st:VSt) (h:aget st.own 2=some (.box 22 1 [.sl s' L[k]!.length (L[k]!.map bD)]))=>odd_p w (n+3) st L[k]!.length (by omega) 54 [.ptr 2 0] (fun x=>L[k]![x]!) fun i hi=>wr1_p w (n+2) st 2 22 1 s' L[k]! h i hi (by omega)
   cases hc:cardP L k with
   |true=>
    have hsy:=sel_yes _ _ hc
    unfold cardP at hc
    rw[hc] at hodd
    repeat' (first|(simp (disch:=first|omega|assumption|exact bd (by with_unfolding_all rfl)|exact Or.inl rfl|exact Or.inl trivial|exact okL_map _ (fun _=>rfl) _|(simp only[VVlen]<;>omega)|fail) only[O1,VV0,VV1,VV2,VV3,VV4,VV5,VV6,VV7,VV8,VV9,mkFnV,vargs,slotsL,opdsA,Nat.reduceEqDiff,Nat.reduceLT,Nat.reduceAdd,Nat.reduceBEq,Int.reduceAdd,Int.reduceSub,Int.reduceLT,Int.reduceLE,Int.reduceEq,Int.reduceNeg,↓reduceIte,reduceCtorEq,scL,scD,expand,List.replicate,c30l1,rowD_dv])|((first|apply gI_dec|apply gG_dec|apply gPG_dec|apply gI_var|apply gG_var|apply gPG_var)<;>intro _))
    refine callV_flat (by rw[hC];refine hodd _ ?_;rfl) ?_
    repeat' (first|(simp (disch:=first|omega|assumption|exact bd (by with_unfolding_all rfl)|exact Or.inl rfl|exact Or.inl trivial|exact okL_map _ (fun _=>rfl) _|(simp only[VVlen]<;>omega)|fail) only[O1,VV0,VV1,VV2,VV3,VV4,VV5,VV6,VV7,VV8,VV9,mkFnV,vargs,slotsL,opdsA,Nat.reduceEqDiff,Nat.reduceLT,Nat.reduceAdd,Nat.reduceBEq,Int.reduceAdd,Int.reduceSub,Int.reduceLT,Int.reduceLE,Int.reduceEq,Int.reduceNeg,↓reduceIte,reduceCtorEq,scL,scD,expand,List.replicate])|((first|apply gI_dec|apply gG_dec|apply gPG_dec|apply gI_var|apply gG_var|apply gPG_var)<;>intro _))
    refine ⟨_,_,_,by omega,weak_to [(4,1),(0,0)] 2 h0 rfl rfl rfl rfl,k+1,rfl,hlt,?_,?_⟩
    ·rw[hsy,List.length_append];try rfl
    ·rw[hsy,List.map_append];rfl
   |false=>
    have hsy:=sel_no _ _ hc
    unfold cardP at hc
    rw[hc] at hodd
    repeat' (first|(simp (disch:=first|omega|assumption|exact bd (by with_unfolding_all rfl)|exact Or.inl rfl|exact Or.inl trivial|exact okL_map _ (fun _=>rfl) _|(simp only[VVlen]<;>omega)|fail) only[O1,VV0,VV1,VV2,VV3,VV4,VV5,VV6,VV7,VV8,VV9,mkFnV,vargs,slotsL,opdsA,Nat.reduceEqDiff,Nat.reduceLT,Nat.reduceAdd,Nat.reduceBEq,Int.reduceAdd,Int.reduceSub,Int.reduceLT,Int.reduceLE,Int.reduceEq,Int.reduceNeg,↓reduceIte,reduceCtorEq,scL,scD,expand,List.replicate,c30l1,rowD_dv])|((first|apply gI_dec|apply gG_dec|apply gPG_dec|apply gI_var|apply gG_var|apply gPG_var)<;>intro _))
    refine callV_flat (by rw[hC];refine hodd _ ?_;rfl) ?_
    repeat' (first|(simp (disch:=first|omega|assumption|exact bd (by with_unfolding_all rfl)|exact Or.inl rfl|exact Or.inl trivial|exact okL_map _ (fun _=>rfl) _|(simp only[VVlen]<;>omega)|fail) only[O1,VV0,VV1,VV2,VV3,VV4,VV5,VV6,VV7,VV8,VV9,mkFnV,vargs,slotsL,opdsA,Nat.reduceEqDiff,Nat.reduceLT,Nat.reduceAdd,Nat.reduceBEq,Int.reduceAdd,Int.reduceSub,Int.reduceLT,Int.reduceLE,Int.reduceEq,Int.reduceNeg,↓reduceIte,reduceCtorEq,scL,scD,expand,List.replicate])|((first|apply gI_dec|apply gG_dec|apply gPG_dec|apply gI_var|apply gG_var|apply gPG_var)<;>intro _))
    exact ⟨_,_,_,by omega,weak_to [(1,1),(0,0)] 2 h0 rfl rfl rfl rfl,k+1,rfl,hlt,by rw[hsy];rfl,by rw[hsy];rfl⟩
  have:k=L.length:=by omega
  subst this
  generalize sel (cardP L) L.length=A at*
  repeat' (first|(simp (disch:=first|omega|assumption|exact bd (by with_unfolding_all rfl)|exact Or.inl rfl|exact Or.inl trivial|exact okL_map _ (fun _=>rfl) _|(simp only[VVlen]<;>omega)|fail) only[O1,VV0,VV1,VV2,VV3,VV4,VV5,VV6,VV7,VV8,VV9,mkFnV,vargs,slotsL,opdsA,Nat.reduceEqDiff,Nat.reduceLT,Nat.reduceAdd,Nat.reduceBEq,Int.reduceAdd,Int.reduceSub,Int.reduceLT,Int.reduceLE,Int.reduceEq,Int.reduceNeg,↓reduceIte,reduceCtorEq,scL,scD,expand,List.replicate,c30l1])|((first|apply gI_dec|apply gG_dec|apply gPG_dec|apply gI_var|apply gG_var|apply gPG_var)<;>intro _))
  refine g_while (fun m fr st=>∃ x:Nat,m=Q+1 - x∧x≤Q+1∧fr= [(1,.ptr 0 0),(2,.gr 2 1 A.length),(3,.gr 2 2 (sel (placeP L) x).length),(30,.sc (.int .i64 ((Q:Int)+1))),(31,.sc (.int .i64 x))]∧
   st=⟨[(2,.gro 3 1 false ((sel (placeP L) x).map iD)),(1,.gro 3 1 false (A.map iD)),(0,.box 34 1 [.sc (.int .i64 Q),.sl s L.length (L.map (rowD s'))])],3,0⟩) (Q+1) ?_ ⟨_,_,weak_nilSlot 3 3 1 rfl,0,by omega,Nat.zero_le _,rfl,rfl⟩ ?_
  ·rw[hrn];unfold many;omega
  rintro m fr st ⟨x,rfl,hx,rfl,rfl⟩
  have hsl2:=sel_le (placeP L) x
  have hsm2:((sel (placeP L) x).map iD).length=(sel (placeP L) x).length:=by rw[List.length_map]
  by_cases hlx:x<Q+1
  ·have hodd:=fun (st:VSt) (h:aget st.own 0=some (.box 34 1 [.sc (.int .i64 Q),.sl s L.length (L.map (rowD s'))])) (h3:aget st.own 3=some (.box 3 1 [.sc (.int .i64 x)]))=>odd_p w (n+3) st L.length (by omega) 55 [.ptr 0 0,.ptr 3 0] (fun y=>L[y]![x]!) fun i hi=>wr2_p w (n+2) st 0 3 34 1 3 1 s s' _ x L h h3 i hi (by have:=q5 i hi;omega) (by omega) (by have:=hr i hi;omega)
   cases hc:placeP L x with
   |true=>
    have hsy:=sel_yes _ _ hc
    unfold placeP at hc
    rw[hc] at hodd
    repeat' (first|(simp (disch:=first|omega|assumption|exact bd (by with_unfolding_all rfl)|exact Or.inl rfl|exact Or.inl trivial|exact okL_map _ (fun _=>rfl) _|(simp only[VVlen]<;>omega)|fail) only[O1,VV0,VV1,VV2,VV3,VV4,VV5,VV6,VV7,VV8,VV9,mkFnV,vargs,slotsL,opdsA,Nat.reduceEqDiff,Nat.reduceLT,Nat.reduceAdd,Nat.reduceBEq,Int.reduceAdd,Int.reduceSub,Int.reduceLT,Int.reduceLE,Int.reduceEq,Int.reduceNeg,↓reduceIte,reduceCtorEq,scL,scD,expand,List.replicate,c30l0,rowD_dv])|((first|apply gI_dec|apply gG_dec|apply gPG_dec|apply gI_var|apply gG_var|apply gPG_var)<;>intro _))
    refine callV_flat (by rw[hC];refine hodd _ ?_ ?_<;>rfl) ?_
    repeat' (first|(simp (disch:=first|omega|assumption|exact bd (by with_unfolding_all rfl)|exact Or.inl rfl|exact Or.inl trivial|exact okL_map _ (fun _=>rfl) _|(simp only[VVlen]<;>omega)|fail) only[O1,VV0,VV1,VV2,VV3,VV4,VV5,VV6,VV7,VV8,VV9,mkFnV,vargs,slotsL,opdsA,Nat.reduceEqDiff,Nat.reduceLT,Nat.reduceAdd,Nat.reduceBEq,Int.reduceAdd,Int.reduceSub,Int.reduceLT,Int.reduceLE,Int.reduceEq,Int.reduceNeg,↓reduceIte,reduceCtorEq,scL,scD,expand,List.replicate])|((first|apply gI_dec|apply gG_dec|apply gPG_dec|apply gI_var|apply gG_var|apply gPG_var)<;>intro _))
    refine ⟨_,_,_,by omega,weak_to [(5,2),(1,1),(0,0)] 3 h0 rfl rfl rfl rfl,x+1,rfl,hlx,?_,?_⟩
    ·rw[hsy,List.length_append];try rfl
    ·rw[hsy,List.map_append];rfl
   |false=>
    have hsy:=sel_no _ _ hc
    unfold placeP at hc
    rw[hc] at hodd
    repeat' (first|(simp (disch:=first|omega|assumption|exact bd (by with_unfolding_all rfl)|exact Or.inl rfl|exact Or.inl trivial|exact okL_map _ (fun _=>rfl) _|(simp only[VVlen]<;>omega)|fail) only[O1,VV0,VV1,VV2,VV3,VV4,VV5,VV6,VV7,VV8,VV9,mkFnV,vargs,slotsL,opdsA,Nat.reduceEqDiff,Nat.reduceLT,Nat.reduceAdd,Nat.reduceBEq,Int.reduceAdd,Int.reduceSub,Int.reduceLT,Int.reduceLE,Int.reduceEq,Int.reduceNeg,↓reduceIte,reduceCtorEq,scL,scD,expand,List.replicate,c30l0,rowD_dv])|((first|apply gI_dec|apply gG_dec|apply gPG_dec|apply gI_var|apply gG_var|apply gPG_var)<;>intro _))
    refine callV_flat (by rw[hC];refine hodd _ ?_ ?_<;>rfl) ?_
    repeat' (first|(simp (disch:=first|omega|assumption|exact bd (by with_unfolding_all rfl)|exact Or.inl rfl|exact Or.inl trivial|exact okL_map _ (fun _=>rfl) _|(simp only[VVlen]<;>omega)|fail) only[O1,VV0,VV1,VV2,VV3,VV4,VV5,VV6,VV7,VV8,VV9,mkFnV,vargs,slotsL,opdsA,Nat.reduceEqDiff,Nat.reduceLT,Nat.reduceAdd,Nat.reduceBEq,Int.reduceAdd,Int.reduceSub,Int.reduceLT,Int.reduceLE,Int.reduceEq,Int.reduceNeg,↓reduceIte,reduceCtorEq,scL,scD,expand,List.replicate])|((first|apply gI_dec|apply gG_dec|apply gPG_dec|apply gI_var|apply gG_var|apply gPG_var)<;>intro _))
    exact ⟨_,_,_,by omega,weak_to [(2,2),(1,1),(0,0)] 3 h0 rfl rfl rfl rfl,x+1,rfl,hlx,by rw[hsy];rfl,by rw[hsy];rfl⟩
  ·have:x=Q+1:=by omega
   subst this
   repeat' (first|(simp (disch:=first|omega|assumption|exact bd (by with_unfolding_all rfl)|exact Or.inl rfl|exact Or.inl trivial|exact okL_map _ (fun _=>rfl) _|(simp only[VVlen]<;>omega)|fail) only[O1,VV0,VV1,VV2,VV3,VV4,VV5,VV6,VV7,VV8,VV9,mkFnV,vargs,slotsL,opdsA,Nat.reduceEqDiff,Nat.reduceLT,Nat.reduceAdd,Nat.reduceBEq,Int.reduceAdd,Int.reduceSub,Int.reduceLT,Int.reduceLE,Int.reduceEq,Int.reduceNeg,↓reduceIte,reduceCtorEq,scL,scD,expand,List.replicate,c30l0])|((first|apply gI_dec|apply gG_dec|apply gPG_dec|apply gI_var|apply gG_var|apply gPG_var)<;>intro _))
   exact weak_fin2 (s:=2) (s':=2) (snap_grD (o:=1) rfl (by rw[List.length_map])) (snap_grD (o:=2) rfl (by rw[List.length_map])) rfl (.inl (by decide)) (.inl (by decide)) h0 rfl
end
end Go.Proofs.YtepdkmdcainddaaDoor
namespace Go.Proofs.YtepdkmdcainddaaDoor
open Go Go.Itp
set_option maxRecDepth 100000
set_option maxHeartbeats 2000000
set_option linter.unusedSimpArgs false
set_option linter.unusedVariables false
def decTo (Q:Nat) (L:List (List Bool)) (k:Nat):List Bool:=((L.take k).map (·.take Q)).flatten
theorem decTo_succ (Q:Nat) (L:List (List Bool)) (k:Nat) (hk:k<L.length):decTo Q L (k+1)=decTo Q L k++L[k]!.take Q:=by
 unfold decTo
 rw[List.take_succ_eq_append_getElem hk,getElem!_pos L k hk,List.map_append,List.flatten_append]
 simp
theorem decTo_len (Q:Nat) (L:List (List Bool)) (h:∀ k,k<L.length→Q≤L[k]!.length):∀ k,k≤L.length→(decTo Q L k).length=k*Q
 |0,_=>by simp[decTo]
 |k+1,hk=>by
  have:=h k (by omega)
  rw[decTo_succ Q L k (by omega),List.length_append,decTo_len Q L h k (by omega),List.length_take,Nat.succ_mul]
  omega
def decV (q:Int) (L:List (List Bool)):V:=
 if wrongE q L=0 then (if wrongA q L= []∧wrongB q L= [] then .tup [gridV 3 q ((L.length - 1:Nat):Int) (decTo q.toNat L (L.length - 1)),.sc (.int .i64 0)] else .tup [gridV 3 0 0 [],.sc (.int .i64 30)])
 else .tup [gridV 3 0 0 [],.sc (.int .i64 8)]
theorem retOK_dec (q:Int) (L:List (List Bool)):RetOK [] (decV q L):=by
 unfold decV
 split
 ·split<;>exact retOK_finT3
 ·exact retOK_finT3
section
variable (w:World) (n:Nat)
theorem decode_p (s s':Nat) (q:Int) (L:List (List Bool)) (hs:s ≠ 1) (hs':s' ≠ 1) (hL:L.length≤1000) (hr:∀ k,k<L.length→L[k]!.length≤1000) (hq: -1000000≤q∧q≤1000000):
  VSpec (EN w (n+6)) 24 [chainV s s' q L] (decV q L) ⟨[],0,0⟩:=by
 refine vspec_g rfl rfl (fun _ _=>rfl) (Nat.le_of_ble_eq_true rfl) (oldVals w) (retOK_dec q L) rfl fun C hC h0=>?_
 have hw:=wrong_p w n s s' q L hs hL hr hq
 have hrn:C.E.rounds=many:=by rw[hC,callP_rounds]
 unfold wrongV at hw
 unfold decV
 by_cases he:wrongE q L=0
 case neg=>
  have he8:wrongE q L=8:=by unfold wrongE at he ⊢;split;rename_i h;simp[h] at he;rfl
  rw[if_neg he]
  rw[he8] at hw
  generalize wrongA q L=A at*
  generalize wrongB q L=B at*
  repeat' (first|(simp (disch:=first|omega|assumption|exact bd (by with_unfolding_all rfl)|exact Or.inl rfl|exact Or.inl trivial|exact okL_map _ (fun _=>rfl) _|(simp only[VVlen]<;>omega)|fail) only[O1,VV0,VV1,VV2,VV3,VV4,VV5,VV6,VV7,VV8,VV9,mkFnV,vargs,slotsL,opdsA,Nat.reduceEqDiff,Nat.reduceLT,Nat.reduceAdd,Nat.reduceBEq,Int.reduceAdd,Int.reduceSub,Int.reduceLT,Int.reduceLE,Int.reduceEq,Int.reduceNeg,↓reduceIte,reduceCtorEq,scL,scD,expand,List.replicate,c24])|((first|apply gI_dec|apply gG_dec|apply gPG_dec|apply gI_var|apply gG_var|apply gPG_var)<;>intro _))
  refine callV_fin (by rw[hC];exact hw) rfl rfl (fun _=>rfl) ?_
  repeat' (first|(simp (disch:=first|omega|assumption|exact bd (by with_unfolding_all rfl)|exact Or.inl rfl|exact Or.inl trivial|exact okL_map _ (fun _=>rfl) _|(simp only[VVlen]<;>omega)|fail) only[O1,VV0,VV1,VV2,VV3,VV4,VV5,VV6,VV7,VV8,VV9,mkFnV,vargs,slotsL,opdsA,Nat.reduceEqDiff,Nat.reduceLT,Nat.reduceAdd,Nat.reduceBEq,Int.reduceAdd,Int.reduceSub,Int.reduceLT,Int.reduceLE,Int.reduceEq,Int.reduceNeg,↓reduceIte,reduceCtorEq,scL,scD,expand,List.replicate])|((first|apply gI_dec|apply gG_dec|apply gPG_dec|apply gI_var|apply gG_var|apply gPG_var)<;>intro _))
  exact weak_finT3Nil h0 rfl
 rw[if_pos he]
 have hval:validS q L=true:=by
  unfold wrongE at he
  split at he
  ·assumption
  ·cases he
 obtain ⟨q1,q2,q3,q4,q5⟩:=valid_out hval
 obtain ⟨Q,rfl⟩:∃ Q:Nat,q=Q:=⟨q.toNat,by omega⟩
 rw[he] at hw
 by_cases hAB:wrongA Q L= []∧wrongB Q L= []
 case neg=>
  rw[if_neg hAB]
  have hp:0<(wrongA Q L).length+(wrongB Q L).length:=by
   rcases Nat.eq_zero_or_pos ((wrongA Q L).length+(wrongB Q L).length) with h|h
   ·exact absurd ⟨List.eq_nil_of_length_eq_zero (by omega),List.eq_nil_of_length_eq_zero (by omega)⟩ hAB
   ·exact h
  have hA:(wrongA Q L).length≤1000:=by unfold wrongA;rw[if_pos hval];have:=sel_le (cardP L) L.length;omega
  have hB:(wrongB Q L).length≤1000:=by unfold wrongB;rw[if_pos hval,show ((Q:Int)+1).toNat=Q+1 by omega];have:=sel_le (placeP L) (Q+1);omega
  generalize wrongA Q L=A at*
  generalize wrongB Q L=B at*
  repeat' (first|(simp (disch:=first|omega|assumption|exact bd (by with_unfolding_all rfl)|exact Or.inl rfl|exact Or.inl trivial|exact okL_map _ (fun _=>rfl) _|(simp only[VVlen]<;>omega)|fail) only[O1,VV0,VV1,VV2,VV3,VV4,VV5,VV6,VV7,VV8,VV9,mkFnV,vargs,slotsL,opdsA,Nat.reduceEqDiff,Nat.reduceLT,Nat.reduceAdd,Nat.reduceBEq,Int.reduceAdd,Int.reduceSub,Int.reduceLT,Int.reduceLE,Int.reduceEq,Int.reduceNeg,↓reduceIte,reduceCtorEq,scL,scD,expand,List.replicate,c24])|((first|apply gI_dec|apply gG_dec|apply gPG_dec|apply gI_var|apply gG_var|apply gPG_var)<;>intro _))
  refine callV_fin (by rw[hC];exact hw) rfl rfl (fun _=>rfl) ?_
  repeat' (first|(simp (disch:=first|omega|assumption|exact bd (by with_unfolding_all rfl)|exact Or.inl rfl|exact Or.inl trivial|exact okL_map _ (fun _=>rfl) _|(simp only[VVlen]<;>omega)|fail) only[O1,VV0,VV1,VV2,VV3,VV4,VV5,VV6,VV7,VV8,VV9,mkFnV,vargs,slotsL,opdsA,Nat.reduceEqDiff,Nat.reduceLT,Nat.reduceAdd,Nat.reduceBEq,Int.reduceAdd,Int.reduceSub,Int.reduceLT,Int.reduceLE,Int.reduceEq,Int.reduceNeg,↓reduceIte,reduceCtorEq,scL,scD,expand,List.replicate])|((first|apply gI_dec|apply gG_dec|apply gPG_dec|apply gI_var|apply gG_var|apply gPG_var)<;>intro _))
  all_goals try (exfalso;omega)
  exact weak_finT3Nil h0 rfl
 rw[if_pos hAB]
 rw[hAB.1,hAB.2] at hw
 obtain ⟨M,hM⟩:∃ M,L.length=M+1:=⟨L.length - 1,by omega⟩
 have hM1:((L.length:Int) - 1)=(M:Int):=by omega
 have hM2:L.length - 1=M:=by omega
 rw[hM2,Int.toNat_natCast]
 have hdl:=decTo_len Q L (fun k hk=>by have:=q5 k hk;omega)
 repeat' (first|(simp (disch:=first|omega|assumption|exact bd (by with_unfolding_all rfl)|exact Or.inl rfl|exact Or.inl trivial|exact okL_map _ (fun _=>rfl) _|(simp only[VVlen]<;>omega)|fail) only[O1,VV0,VV1,VV2,VV3,VV4,VV5,VV6,VV7,VV8,VV9,mkFnV,vargs,slotsL,opdsA,Nat.reduceEqDiff,Nat.reduceLT,Nat.reduceAdd,Nat.reduceBEq,Int.reduceAdd,Int.reduceSub,Int.reduceLT,Int.reduceLE,Int.reduceEq,Int.reduceNeg,↓reduceIte,reduceCtorEq,scL,scD,expand,List.replicate,c24])|((first|apply gI_dec|apply gG_dec|apply gPG_dec|apply gI_var|apply gG_var|apply gPG_var)<;>intro _))
 refine callV_fin (by rw[hC];exact hw) rfl rfl (fun _=>rfl) ?_
 repeat' (first|(simp (disch:=first|omega|assumption|exact bd (by with_unfolding_all rfl)|exact Or.inl rfl|exact Or.inl trivial|exact okL_map _ (fun _=>rfl) _|(simp only[VVlen]<;>omega)|fail) only[O1,VV0,VV1,VV2,VV3,VV4,VV5,VV6,VV7,VV8,VV9,mkFnV,vargs,slotsL,opdsA,Nat.reduceEqDiff,Nat.reduceLT,Nat.reduceAdd,Nat.reduceBEq,Int.reduceAdd,Int.reduceSub,Int.reduceLT,Int.reduceLE,Int.reduceEq,Int.reduceNeg,↓reduceIte,reduceCtorEq,scL,scD,expand,List.replicate,List.length_nil,hM1,Int.toNat_natCast,Nat.sub_zero])|((first|apply gI_dec|apply gG_dec|apply gPG_dec|apply gI_var|apply gG_var|apply gPG_var)<;>intro _))
 all_goals try (exfalso;omega)
 have hTl:(L.take M).length=M:=by rw[List.length_take];omega
 have hTm:((L.take M).map (rowD s')).length=M:=by rw[List.length_map,hTl]
 have hTk:∀ k,k<M→(L.take M)[k]! =L[k]! :=fun k hk=>by
  rw[getElem!_pos _ k (by rw[hTl];exact hk),getElem!_pos L k (by omega),List.getElem_take]
 generalize L.take M=T at*
 refine g_while (fun m fr st=>∃ k:Nat,m=M - k∧k≤M∧fr= [(2,.ptr 1 0),(7,.ptr 2 0),(38,.sl (kindS s) M (T.map (rowD s'))),(39,.sc (.int .i64 M)),(40,.sc (.int .i64 k))]∧
  st=⟨[(3,.gro 4 1 false ((decTo Q L k).map bD)),(2,.box 24 1 [.sc (.int .i64 Q),.sc (.int .i64 M),.gr 2 3 (decTo Q L k).length]),(1,.box 24 1 [.sc (.int .i64 0),.sc (.int .i64 0),.sc (.slice none 0 0)]),(0,.box 34 1 [.sc (.int .i64 Q),.sl s L.length (L.map (rowD s'))])],4,0⟩) M ?_
  ⟨_,_,weak_nilCell (C:=C) (l:= [.sc (.int .i64 Q),.sc (.int .i64 M),.sc (.slice none 0 0)]) 2 24 1 2 4 1 rfl rfl (fun h=>absurd (show (2:Nat)=3 from h) (by decide)),0,by omega,Nat.zero_le _,rfl,rfl⟩ ?_
 ·rw[hrn];unfold many;omega
 rintro m fr st ⟨k,rfl,hk,rfl,rfl⟩
 have hdk:=hdl k (by omega)
 have hdk2:(decTo Q L k).length≤65*40:=by rw[hdk];exact Nat.mul_le_mul (by omega) (by omega)
 by_cases hlt:k<M
 ·have hrk:=q5 k (by omega)
  have hsc:=decTo_succ Q L k (by omega)
  have hTk1:=hTk k hlt
  have hkl:L[k]!.length=Q+1:=by omega
  have htl:(L[k]!.take Q).length=Q:=by rw[List.length_take];omega
  have htm:((L[k]!.take Q).map bD).length=Q:=by rw[List.length_map,htl]
  generalize L[k]! =R at*
  have hbm:((decTo Q L k).map bD).length=(decTo Q L k).length:=by rw[List.length_map]
  repeat' (first|(simp (disch:=first|omega|assumption|exact bd (by with_unfolding_all rfl)|exact Or.inl rfl|exact Or.inl trivial|exact okL_map _ (fun _=>rfl) _|(simp only[VVlen]<;>omega)|fail) only[O1,VV0,VV1,VV2,VV3,VV4,VV5,VV6,VV7,VV8,VV9,mkFnV,vargs,slotsL,opdsA,Nat.reduceEqDiff,Nat.reduceLT,Nat.reduceAdd,Nat.reduceBEq,Int.reduceAdd,Int.reduceSub,Int.reduceLT,Int.reduceLE,Int.reduceEq,Int.reduceNeg,↓reduceIte,reduceCtorEq,scL,scD,expand,List.replicate,c24l0,rowD_dv,hTk1,Nat.sub_zero,Int.toNat_natCast,hkl])|((first|apply gI_dec|apply gG_dec|apply gPG_dec|apply gI_var|apply gG_var|apply gPG_var)<;>intro _))
  all_goals try (exfalso;omega)
  refine ⟨_,_,_,by omega,weak_to [(4,3),(2,2),(1,1),(0,0)] 4 h0 rfl rfl rfl rfl,k+1,rfl,hlt,rfl,?_⟩
  rw[hsc,List.map_append,List.length_append,htl]
  rfl
 ·have:k=M:=by omega
  subst this
  repeat' (first|(simp (disch:=first|omega|assumption|exact bd (by with_unfolding_all rfl)|exact Or.inl rfl|exact Or.inl trivial|exact okL_map _ (fun _=>rfl) _|(simp only[VVlen]<;>omega)|fail) only[O1,VV0,VV1,VV2,VV3,VV4,VV5,VV6,VV7,VV8,VV9,mkFnV,vargs,slotsL,opdsA,Nat.reduceEqDiff,Nat.reduceLT,Nat.reduceAdd,Nat.reduceBEq,Int.reduceAdd,Int.reduceSub,Int.reduceLT,Int.reduceLE,Int.reduceEq,Int.reduceNeg,↓reduceIte,reduceCtorEq,scL,scD,expand,List.replicate,c24l0])|((first|apply gI_dec|apply gG_dec|apply gPG_dec|apply gI_var|apply gG_var|apply gPG_var)<;>intro _))
  exact weak_finT3 (s:=2) (snap_grD (o:=3) rfl (by rw[List.length_map])) rfl (.inl (by decide)) h0 rfl
end
end Go.Proofs.YtepdkmdcainddaaDoor
namespace Go.Proofs.YtepdkmdcainddaaDoor
open Go Go.Itp
set_option maxRecDepth 100000
set_option maxHeartbeats 2000000
set_option linter.unusedSimpArgs false
set_option linter.unusedVariables false
def pegT (b:Bool):UInt8:=if b=true then 111 else 46
def cardT (c:List Bool):List UInt8:=c.map pegT++ [10]
def textC (L:List (List Bool)):List UInt8:=(L.map cardT).flatten
theorem textC_succ (L:List (List Bool)) (k:Nat) (hk:k<L.length):textC (L.take (k+1))=textC (L.take k)++cardT L[k]! :=by
 unfold textC
 rw[List.take_succ_eq_append_getElem hk,getElem!_pos L k hk,List.map_append,List.flatten_append]
 simp
theorem textC_len (L:List (List Bool)) (m:Nat) (h:∀ k,k<L.length→L[k]!.length≤m):∀ k,k≤L.length→(textC (L.take k)).length≤k*(m+1)
 |0,_=>by simp[textC]
 |k+1,hk=>by
  have:=h k (by omega)
  have ih:=textC_len L m h k (by omega)
  rw[textC_succ L k (by omega),List.length_append,Nat.succ_mul]
  simp only[cardT,List.length_append,List.length_map,List.length_singleton]
  omega
theorem strD_push (l:List UInt8) (c:UInt8):strD ⟨(l++ [c]).toArray⟩=strD ⟨l.toArray⟩++ [.sc (.int .u8 c.toNat)]:=by simp[strD,Itp.bD]
theorem map_take_succ (c:List Bool) (j:Nat) (hj:j<c.length):(c.take (j+1)).map pegT=(c.take j).map pegT++ [pegT c[j]!]:=by
 rw[List.take_succ_eq_append_getElem hj,getElem!_pos c j hj,List.map_append]
 rfl
section
variable (w:World) (n:Nat)
theorem writeByte_w {C:Ctx} {st:VSt} {Q:V→VSt→Prop} (hC:C.E=EN w (n+3)) (b r:Nat) (p:V) (l:List UInt8) (c:Nat) (hc:c<256) (hb:aget st.own b=some (.box 69 1 [p,.gr 2 r l.length])) (hr:aget st.own r=some (.gro 5 1 false (strD ⟨l.toArray⟩))) (hp:selfP b p) (hro:st.ro≤b) (hro2:st.ro≤r) (hrb:r ≠ b) (hlt:b ≠ st.next) (hlt2:r ≠ st.next) (hlt3:b ≠ st.next+1)
  (hsz:l.length≤1000000000) (hq:Q (.sc .nilIface) ⟨(st.next+1,.gro 5 1 false (strD ⟨(l++ [UInt8.ofNat c]).toArray⟩))::(st.next,.row 5 1 false false [.sc (.int .u8 c)])::aset (adel r st.own) b (.box 69 1 [.ptr b 0,.gr 2 (st.next+1) (l.length+1)]),st.next+2,st.ro⟩):
  CallV C 53 [.ptr b 0,.sc (.int .u8 c)] st Q:=by
 refine callV_w hC rfl rfl (fun _ _=>rfl) (Nat.le_of_ble_eq_true rfl) hq fun C' hC' hn=>?_
 obtain ⟨H,nx,ro⟩:=st
 have h1:(strD ⟨l.toArray⟩).length=l.length:=by rw[strD_len];exact mk_size l
 have hpush:=strD_push l (UInt8.ofNat c)
 have hcc:(UInt8.ofNat c).toNat=c:=by rw[UInt8.toNat_ofNat'];omega
 rw[hcc] at hpush
 have a1:aget (aset H b (.box 69 1 [.ptr b 0,.gr 2 r l.length])) b=some (.box 69 1 [.ptr b 0,.gr 2 r l.length]):=aget_aset_eq hb
 have a2:aget (aset H b (.box 69 1 [.ptr b 0,.gr 2 r l.length])) r=some (.gro 5 1 false (strD ⟨l.toArray⟩)):=by rw[aget_aset _ _ _ _ _ hb,if_neg hrb];exact hr
 have hbr:¬ b=r:=fun e=>hrb e.symm
 repeat' (first|(simp (disch:=first|omega|assumption|exact bd (by with_unfolding_all rfl)|exact Or.inl rfl|exact Or.inl trivial|exact okL_map _ (fun _=>rfl) _|(simp only[VVlen]<;>omega)|fail) only[O1,VV0,VV1,VV2,VV3,VV4,VV5,VV6,VV7,VV8,VV9,mkFnV,vargs,slotsL,opdsA,Nat.reduceEqDiff,Nat.reduceLT,Nat.reduceAdd,Nat.reduceBEq,Int.reduceAdd,Int.reduceSub,Int.reduceLT,Int.reduceLE,Int.reduceEq,Int.reduceNeg,↓reduceIte,reduceCtorEq,scL,scD,expand,List.replicate,c53])|((first|apply gI_dec|apply gG_dec|apply gPG_dec|apply gI_var|apply gG_var|apply gPG_var)<;>intro _))
 refine copyCheck_w w n hC' b 1 p _ hb hp hro ?_
 have a3:aget (adel r (aset H b (.box 69 1 [.ptr b 0,.gr 2 r l.length]))) b=some (.box 69 1 [.ptr b 0,.gr 2 r l.length]):=by rw[aget_adel,if_neg hbr];exact a1
 have hlt':¬ nx=b:=fun e=>hlt e.symm
 have hlt2':¬ nx=r:=fun e=>hlt2 e.symm
 have hlt3':¬ nx+1=b:=fun e=>hlt3 e.symm
 repeat' (first|(simp (disch:=first|omega|assumption|exact bd (by with_unfolding_all rfl)|exact Or.inl rfl|exact Or.inl trivial|exact okL_map _ (fun _=>rfl) _|(simp only[VVlen]<;>omega)|fail) only[O1,VV0,VV1,VV2,VV3,VV4,VV5,VV6,VV7,VV8,VV9,mkFnV,vargs,slotsL,opdsA,Nat.reduceEqDiff,Nat.reduceLT,Nat.reduceAdd,Nat.reduceBEq,Int.reduceAdd,Int.reduceSub,Int.reduceLT,Int.reduceLE,Int.reduceEq,Int.reduceNeg,↓reduceIte,reduceCtorEq,scL,scD,expand,List.replicate,a1,a2,a3,hbr,hrb,hlt,hlt2,hlt3,hlt',hlt2',hlt3',frozA_none])|((first|apply gI_dec|apply gG_dec|apply gPG_dec|apply gI_var|apply gG_var|apply gPG_var)<;>intro _))
 rw[adel_aset _ _ _ _ hrb,aset_aset,← hpush]
 exact .refl _ _
theorem text_p (s s':Nat) (q:Int) (L:List (List Bool)) (hs:s ≠ 1) (hval:validS q L=true):
  VSpec (EN w (n+5)) 29 [chainV s s' q L] (.tup [strV (textC L),.sc (.int .i64 0)]) ⟨[],0,0⟩:=by
 refine vspec_flat rfl rfl (fun _ _=>rfl) (Nat.le_of_ble_eq_true rfl) (oldVals w) rfl fun C hC h0=>?_
 obtain ⟨q1,q2,q3,q4,q5⟩:=valid_out hval
 have hv:=valid_p w n s s' q L hs (by omega) (fun k hk=>by have:=q5 k hk;omega) ⟨by omega,by omega⟩
 rw[hval] at hv
 have hrn:C.E.rounds=many:=by rw[hC,callP_rounds]
 repeat' (first|(simp (disch:=first|omega|assumption|exact bd (by with_unfolding_all rfl)|exact Or.inl rfl|exact Or.inl trivial|exact okL_map _ (fun _=>rfl) _|(simp only[VVlen]<;>omega)|fail) only[O1,VV0,VV1,VV2,VV3,VV4,VV5,VV6,VV7,VV8,VV9,mkFnV,vargs,slotsL,opdsA,Nat.reduceEqDiff,Nat.reduceLT,Nat.reduceAdd,Nat.reduceBEq,Int.reduceAdd,Int.reduceSub,Int.reduceLT,Int.reduceLE,Int.reduceEq,Int.reduceNeg,↓reduceIte,reduceCtorEq,scL,scD,expand,List.replicate,c29])|((first|apply gI_dec|apply gG_dec|apply gPG_dec|apply gI_var|apply gG_var|apply gPG_var)<;>intro _))
 refine callV_flat (by rw[hC];exact hv.flat rfl rfl) ?_
 repeat' (first|(simp (disch:=first|omega|assumption|exact bd (by with_unfolding_all rfl)|exact Or.inl rfl|exact Or.inl trivial|exact okL_map _ (fun _=>rfl) _|(simp only[VVlen]<;>omega)|fail) only[O1,VV0,VV1,VV2,VV3,VV4,VV5,VV6,VV7,VV8,VV9,mkFnV,vargs,slotsL,opdsA,Nat.reduceEqDiff,Nat.reduceLT,Nat.reduceAdd,Nat.reduceBEq,Int.reduceAdd,Int.reduceSub,Int.reduceLT,Int.reduceLE,Int.reduceEq,Int.reduceNeg,↓reduceIte,reduceCtorEq,scL,scD,expand,List.replicate])|((first|apply gI_dec|apply gG_dec|apply gPG_dec|apply gI_var|apply gG_var|apply gPG_var)<;>intro _))
 refine g_while (fun m fr st=>∃ (k:Nat) (p:V),m=L.length - k∧k≤L.length∧selfP 1 p∧fr= [(4,.ptr 1 0),(13,.sl s L.length (L.map (rowD s'))),(14,.sc (.int .i64 L.length)),(15,.sc (.int .i64 k))]∧
  st=⟨[(2,.gro 5 1 false (strD ⟨(textC (L.take k)).toArray⟩)),(1,.box 69 1 [p,.gr 2 2 (textC (L.take k)).length]),(0,.box 34 1 [.sc (.int .i64 q),.sl s L.length (L.map (rowD s'))])],3,0⟩) L.length ?_
  ⟨_,_,weak_nilCell (C:=C) (l:= [.sc (.pointer none),.sc (.slice none 0 0)]) 1 69 1 1 5 1 rfl rfl (fun h=>absurd (show (1:Nat)=2 from h) (by decide)),0,.sc (.pointer none),by omega,Nat.zero_le _,.inl rfl,rfl,rfl⟩ ?_
 ·rw[hrn];unfold many;omega
 rintro m fr st ⟨k,p,rfl,hk,hp,rfl,rfl⟩
 have htl:=textC_len L 41 (fun k hk=>by have:=q5 k hk;omega) k hk
 have htl2:k*42≤65*42:=Nat.mul_le_mul (by omega) (Nat.le_refl _)
 by_cases hlt:k<L.length
 case neg=>
  have:k=L.length:=by omega
  subst this
  rw[List.take_length] at htl ⊢
  have hlz:=mk_size (textC L)
  repeat' (first|(simp (disch:=first|omega|assumption|exact bd (by with_unfolding_all rfl)|exact Or.inl rfl|exact Or.inl trivial|exact okL_map _ (fun _=>rfl) _|(simp only[VVlen]<;>omega)|fail) only[O1,VV0,VV1,VV2,VV3,VV4,VV5,VV6,VV7,VV8,VV9,mkFnV,vargs,slotsL,opdsA,Nat.reduceEqDiff,Nat.reduceLT,Nat.reduceAdd,Nat.reduceBEq,Int.reduceAdd,Int.reduceSub,Int.reduceLT,Int.reduceLE,Int.reduceEq,Int.reduceNeg,↓reduceIte,reduceCtorEq,scL,scD,expand,List.replicate,c29l1])|((first|apply gI_dec|apply gG_dec|apply gPG_dec|apply gI_var|apply gG_var|apply gPG_var)<;>intro _))
  refine string_w w (n+3) hC 1 2 p ⟨(textC L).toArray⟩ (by rw[hlz];rfl) rfl (Nat.zero_le _) (Nat.zero_le _) (by omega) fun st' hst=>?_
  repeat' (first|(simp (disch:=first|omega|assumption|exact bd (by with_unfolding_all rfl)|exact Or.inl rfl|exact Or.inl trivial|exact okL_map _ (fun _=>rfl) _|(simp only[VVlen]<;>omega)|fail) only[O1,VV0,VV1,VV2,VV3,VV4,VV5,VV6,VV7,VV8,VV9,mkFnV,vargs,slotsL,opdsA,Nat.reduceEqDiff,Nat.reduceLT,Nat.reduceAdd,Nat.reduceBEq,Int.reduceAdd,Int.reduceSub,Int.reduceLT,Int.reduceLE,Int.reduceEq,Int.reduceNeg,↓reduceIte,reduceCtorEq,scL,scD,expand,List.replicate])|((first|apply gI_dec|apply gG_dec|apply gPG_dec|apply gI_var|apply gG_var|apply gPG_var)<;>intro _))
  exact weak_flat rfl h0 hst
 have hsc:=textC_succ L k hlt
 have hrk:=q5 k hlt
 generalize textC (L.take k)=T at*
 have hlm:(L.map (rowD s')).length=L.length:=by rw[List.length_map]
 repeat' (first|(simp (disch:=first|omega|assumption|exact bd (by with_unfolding_all rfl)|exact Or.inl rfl|exact Or.inl trivial|exact okL_map _ (fun _=>rfl) _|(simp only[VVlen]<;>omega)|fail) only[O1,VV0,VV1,VV2,VV3,VV4,VV5,VV6,VV7,VV8,VV9,mkFnV,vargs,slotsL,opdsA,Nat.reduceEqDiff,Nat.reduceLT,Nat.reduceAdd,Nat.reduceBEq,Int.reduceAdd,Int.reduceSub,Int.reduceLT,Int.reduceLE,Int.reduceEq,Int.reduceNeg,↓reduceIte,reduceCtorEq,scL,scD,expand,List.replicate,c29l1,rowD_dv])|((first|apply gI_dec|apply gG_dec|apply gPG_dec|apply gI_var|apply gG_var|apply gPG_var)<;>intro _))
 generalize hR:L[k]! =R at*
 refine g_while (fun m fr st=>∃ (j:Nat) (p:V),m=R.length - j∧j≤R.length∧selfP 1 p∧fr= [(4,.ptr 1 0),(13,.sl s L.length (L.map (rowD s'))),(14,.sc (.int .i64 L.length)),(15,.sc (.int .i64 k)),(19,.sl s' R.length (R.map bD)),(20,.sc (.int .i64 R.length)),(21,.sc (.int .i64 j))]∧
  st=⟨[(2,.gro 5 1 false (strD ⟨(T++(R.take j).map pegT).toArray⟩)),(1,.box 69 1 [p,.gr 2 2 (T++(R.take j).map pegT).length]),(0,.box 34 1 [.sc (.int .i64 q),.sl s L.length (L.map (rowD s'))])],3,0⟩) R.length ?_
  ⟨_,_,.refl _ _,0,p,by omega,Nat.zero_le _,hp,rfl,by simp⟩ ?_
 ·rw[hrn];unfold many;omega
 rintro m fr st ⟨j,p,rfl,hj,hp,rfl,rfl⟩
 have hml:((R.take j).map pegT).length=j:=by rw[List.length_map,List.length_take];omega
 have hTl:(T++(R.take j).map pegT).length=T.length+j:=by rw[List.length_append,hml]
 by_cases hlj:j<R.length
 ·have hms:=map_take_succ R j hlj
  have hRm:(R.map bD).length=R.length:=by rw[List.length_map]
  cases hb:R[j]! with
  |true=>
   rw[hb,show pegT true=UInt8.ofNat 111 from rfl] at hms
   repeat' (first|(simp (disch:=first|omega|assumption|exact bd (by with_unfolding_all rfl)|exact Or.inl rfl|exact Or.inl trivial|exact okL_map _ (fun _=>rfl) _|(simp only[VVlen]<;>omega)|fail) only[O1,VV0,VV1,VV2,VV3,VV4,VV5,VV6,VV7,VV8,VV9,mkFnV,vargs,slotsL,opdsA,Nat.reduceEqDiff,Nat.reduceLT,Nat.reduceAdd,Nat.reduceBEq,Int.reduceAdd,Int.reduceSub,Int.reduceLT,Int.reduceLE,Int.reduceEq,Int.reduceNeg,↓reduceIte,reduceCtorEq,scL,scD,expand,List.replicate,c29l0,bD_dv,hb])|((first|apply gI_dec|apply gG_dec|apply gPG_dec|apply gI_var|apply gG_var|apply gPG_var)<;>intro _))
   refine writeByte_w w (n+1) hC 1 2 p (T++(R.take j).map pegT) 111 (by decide) rfl rfl hp (Nat.zero_le _) (Nat.zero_le _) (by decide) (Nat.ne_of_beq_eq_false rfl) (Nat.ne_of_beq_eq_false rfl) (Nat.ne_of_beq_eq_false rfl) (by omega) ?_
   repeat' (first|(simp (disch:=first|omega|assumption|exact bd (by with_unfolding_all rfl)|exact Or.inl rfl|exact Or.inl trivial|exact okL_map _ (fun _=>rfl) _|(simp only[VVlen]<;>omega)|fail) only[O1,VV0,VV1,VV2,VV3,VV4,VV5,VV6,VV7,VV8,VV9,mkFnV,vargs,slotsL,opdsA,Nat.reduceEqDiff,Nat.reduceLT,Nat.reduceAdd,Nat.reduceBEq,Int.reduceAdd,Int.reduceSub,Int.reduceLT,Int.reduceLE,Int.reduceEq,Int.reduceNeg,↓reduceIte,reduceCtorEq,scL,scD,expand,List.replicate])|((first|apply gI_dec|apply gG_dec|apply gPG_dec|apply gI_var|apply gG_var|apply gPG_var)<;>intro _))
   refine ⟨_,_,_,by omega,weak_to [(4,2),(1,1),(0,0)] 3 h0 rfl rfl rfl rfl,j+1,.ptr 1 0,rfl,hlj,.inr rfl,rfl,?_⟩
   rw[hms,← List.append_assoc,List.length_append (bs:= [UInt8.ofNat 111])]
   rfl
  |false=>
   rw[hb,show pegT false=UInt8.ofNat 46 from rfl] at hms
   repeat' (first|(simp (disch:=first|omega|assumption|exact bd (by with_unfolding_all rfl)|exact Or.inl rfl|exact Or.inl trivial|exact okL_map _ (fun _=>rfl) _|(simp only[VVlen]<;>omega)|fail) only[O1,VV0,VV1,VV2,VV3,VV4,VV5,VV6,VV7,VV8,VV9,mkFnV,vargs,slotsL,opdsA,Nat.reduceEqDiff,Nat.reduceLT,Nat.reduceAdd,Nat.reduceBEq,Int.reduceAdd,Int.reduceSub,Int.reduceLT,Int.reduceLE,Int.reduceEq,Int.reduceNeg,↓reduceIte,reduceCtorEq,scL,scD,expand,List.replicate,c29l0,bD_dv,hb])|((first|apply gI_dec|apply gG_dec|apply gPG_dec|apply gI_var|apply gG_var|apply gPG_var)<;>intro _))
   refine writeByte_w w (n+1) hC 1 2 p (T++(R.take j).map pegT) 46 (by decide) rfl rfl hp (Nat.zero_le _) (Nat.zero_le _) (by decide) (Nat.ne_of_beq_eq_false rfl) (Nat.ne_of_beq_eq_false rfl) (Nat.ne_of_beq_eq_false rfl) (by omega) ?_
   repeat' (first|(simp (disch:=first|omega|assumption|exact bd (by with_unfolding_all rfl)|exact Or.inl rfl|exact Or.inl trivial|exact okL_map _ (fun _=>rfl) _|(simp only[VVlen]<;>omega)|fail) only[O1,VV0,VV1,VV2,VV3,VV4,VV5,VV6,VV7,VV8,VV9,mkFnV,vargs,slotsL,opdsA,Nat.reduceEqDiff,Nat.reduceLT,Nat.reduceAdd,Nat.reduceBEq,Int.reduceAdd,Int.reduceSub,Int.reduceLT,Int.reduceLE,Int.reduceEq,Int.reduceNeg,↓reduceIte,reduceCtorEq,scL,scD,expand,List.replicate])|((first|apply gI_dec|apply gG_dec|apply gPG_dec|apply gI_var|apply gG_var|apply gPG_var)<;>intro _))
   refine ⟨_,_,_,by omega,weak_to [(4,2),(1,1),(0,0)] 3 h0 rfl rfl rfl rfl,j+1,.ptr 1 0,rfl,hlj,.inr rfl,rfl,?_⟩
   rw[hms,← List.append_assoc,List.length_append (bs:= [UInt8.ofNat 46])]
   rfl
 ·have:j=R.length:=by omega
  subst this
  rw[List.take_length] at hml hTl ⊢
  have hsc2:textC (L.take (k+1))=(T++R.map pegT)++ [UInt8.ofNat 10]:=by rw[hsc];simp[cardT]
  repeat' (first|(simp (disch:=first|omega|assumption|exact bd (by with_unfolding_all rfl)|exact Or.inl rfl|exact Or.inl trivial|exact okL_map _ (fun _=>rfl) _|(simp only[VVlen]<;>omega)|fail) only[O1,VV0,VV1,VV2,VV3,VV4,VV5,VV6,VV7,VV8,VV9,mkFnV,vargs,slotsL,opdsA,Nat.reduceEqDiff,Nat.reduceLT,Nat.reduceAdd,Nat.reduceBEq,Int.reduceAdd,Int.reduceSub,Int.reduceLT,Int.reduceLE,Int.reduceEq,Int.reduceNeg,↓reduceIte,reduceCtorEq,scL,scD,expand,List.replicate,c29l0])|((first|apply gI_dec|apply gG_dec|apply gPG_dec|apply gI_var|apply gG_var|apply gPG_var)<;>intro _))
  refine writeByte_w w (n+1) hC 1 2 p (T++R.map pegT) 10 (by decide) rfl rfl hp (Nat.zero_le _) (Nat.zero_le _) (by decide) (Nat.ne_of_beq_eq_false rfl) (Nat.ne_of_beq_eq_false rfl) (Nat.ne_of_beq_eq_false rfl) (by omega) ?_
  repeat' (first|(simp (disch:=first|omega|assumption|exact bd (by with_unfolding_all rfl)|exact Or.inl rfl|exact Or.inl trivial|exact okL_map _ (fun _=>rfl) _|(simp only[VVlen]<;>omega)|fail) only[O1,VV0,VV1,VV2,VV3,VV4,VV5,VV6,VV7,VV8,VV9,mkFnV,vargs,slotsL,opdsA,Nat.reduceEqDiff,Nat.reduceLT,Nat.reduceAdd,Nat.reduceBEq,Int.reduceAdd,Int.reduceSub,Int.reduceLT,Int.reduceLE,Int.reduceEq,Int.reduceNeg,↓reduceIte,reduceCtorEq,scL,scD,expand,List.replicate])|((first|apply gI_dec|apply gG_dec|apply gPG_dec|apply gI_var|apply gG_var|apply gPG_var)<;>intro _))
  refine ⟨_,_,_,by omega,weak_to [(4,2),(1,1),(0,0)] 3 h0 rfl rfl rfl rfl,k+1,.ptr 1 0,rfl,hlt,.inr rfl,rfl,?_⟩
  rw[hsc2,List.length_append (bs:= [UInt8.ofNat 10])]
  rfl
end
end Go.Proofs.YtepdkmdcainddaaDoor
namespace Go.Proofs.YtepdkmdcainddaaDoor
open Go Go.Itp
set_option maxRecDepth 100000
set_option maxHeartbeats 2000000
set_option linter.unusedSimpArgs false
set_option linter.unusedVariables false
end Go.Proofs.YtepdkmdcainddaaDoor
namespace Go.Proofs.YtepdkmdcainddaaDoor
open Go Go.Itp
set_option maxRecDepth 100000
set_option maxHeartbeats 2000000
set_option linter.unusedSimpArgs false
set_option linter.unusedVariables false
theorem parse_map (r:List UInt8):∀ (c:List Bool) (cs:List (List Bool)) (acc:List Bool),parseP (c.map pegT++r) cs acc=parseP r cs (acc++c)
 | [],cs,acc=>by simp
 |b::c,cs,acc=>by
  rw[List.map_cons,List.cons_append,parseP]
  cases b
  ·rw[if_pos (.inr rfl),parse_map r c]
   simp[pegT]
  ·rw[if_pos (.inl rfl),parse_map r c]
   simp[pegT]
theorem parse_textC:∀ (L cs:List (List Bool)),parseP (textC L) cs []=some (cs++L,[])
 | [],cs=>by simp[textC,parseP]
 |c::L,cs=>by
  have e:textC (c::L)=c.map pegT++(10::textC L):=by simp[textC,cardT]
  rw[e,parse_map,parseP,if_neg (by decide),if_pos rfl,List.nil_append,parse_textC L]
  simp
theorem parse18_text {q:Int} {L:List (List Bool)} (h:validS q L=true):parse18 (textC L)=some (q,L):=by
 have h1:=parse_textC L []
 have h2:=(valid_head h).2
 unfold parse18
 rw[h1]
 simp only[List.nil_append]
 rw[← h2,if_pos ⟨trivial,h⟩]
theorem rows_flat (B:List Bool) (Q:Nat):∀ k,k*Q≤B.length→((List.range k).map (bitsRow B Q)).flatten=B.take (k*Q)
 |0,_=>by simp
 |k+1,h=>by
  have h1:k*Q+Q≤B.length:=by rw[← Nat.succ_mul];exact h
  rw[List.range_succ,List.map_append,List.flatten_append,rows_flat B Q k (by omega),Nat.succ_mul,List.take_add,part_row B Q k h]
  simp
theorem rows_all (B:List Bool) (Q K:Nat) (h:B.length=Q*K):((List.range K).map (bitsRow B Q)).flatten=B:=by
 rw[rows_flat B Q K (by rw[h,Nat.mul_comm];exact Nat.le_refl _),Nat.mul_comm,← h,List.take_length]
theorem dec_enc (B:List Bool) (Q K:Nat) (h:B.length=Q*K):decTo Q (encV B Q K) K=B:=by
 have h1:(encV B Q K).take K=encRows B Q K:=by
  unfold encV
  rw[List.take_append_of_le_length (by rw[encRows_len];exact Nat.le_refl _),List.take_of_length_le (by rw[encRows_len];exact Nat.le_refl _)]
 have h2:(encRows B Q K).map (·.take Q)=(List.range K).map (bitsRow B Q):=by
  unfold encRows
  rw[List.map_map]
  refine List.map_congr_left fun k _=>?_
  show (fullRow B Q k).take Q=_
  unfold fullRow
  rw[List.take_append_of_le_length (by rw[bitsRow_len];exact Nat.le_refl _),List.take_of_length_le (by rw[bitsRow_len];exact Nat.le_refl _)]
 unfold decTo
 rw[h1,h2,rows_all B Q K h]
theorem read_plan (B:List Bool) (Q K:Nat) (hQ:1≤Q∧Q≤40) (hK:1≤K∧K≤64) (h:B.length=Q*K):preadF Q (planTo B Q K)=some (B,K):=by
 obtain ⟨Rs,hRs⟩:∃ Rs,Rs=(List.range K).map (bitsRow B Q):=⟨_,rfl⟩
 have hl:Rs.length=K:=by rw[hRs];simp
 have hr:∀ R ∈ Rs,R.length=Q:=fun R hR=>by
  rw[hRs] at hR
  obtain ⟨k,_,rfl⟩:=List.mem_map.1 hR
  exact bitsRow_len B Q k
 have hf:Rs.flatten=B:=by rw[hRs,rows_all B Q K h]
 have hp:=planTo_rows K Rs hl hr
 rw[hf] at hp
 obtain ⟨ls,hls⟩:∃ ls,ls=Rs.map fun R=>ltx (fnL R) Q:=⟨_,rfl⟩
 rw[← hls] at hp
 have hll:ls.length=K:=by rw[hls,List.length_map,hl]
 have hne:ls ≠ []:=fun e=>by rw[e] at hll;simp at hll;omega
 have hn10:∀ x ∈ ls,(10:UInt8) ∉ x:=fun x hx=>by
  rw[hls] at hx
  obtain ⟨R,_,rfl⟩:=List.mem_map.1 hx
  exact ltx_no10 _ _
 have hj:=fed_join ls hne
 have hw:=words_join hne hn10
 have hb:bitsP Q ls=B:=by
  unfold bitsP
  rw[hls,List.map_map,← hf]
  congr 1
  conv=>rhs;rw[← List.map_id Rs]
  refine List.map_congr_left fun R hR=>?_
  show rowP Q (ltx (fnL R) Q)=R
  rw[(rowF_ltx (fnL R) Q (by omega)).2,range_fnL R Q (hr R hR)]
 rw[hp,hj]
 unfold preadF
 rw[List.dropLast_concat,hw,hb,hll,← hj,hp,if_pos ⟨by rw[hj];simp,by rw[hj];simp,hK.2,rfl⟩]
theorem enc_rows41 (B:List Bool) (Q K k:Nat) (hQ:Q≤40) (hk:k<(encV B Q K).length):(encV B Q K)[k]!.length≤1000:=by
 rw[encV_len] at hk
 rw[encV_row B Q K k hk]
 omega
section
variable (w:World) (n:Nat)
theorem fit_p (s:Nat) (a b:Int) (B:List Bool) (hB:B.length≤140737488351232):VSpec (EN w (n+4)) 20 [gridV s a b B] (.sc (.bool (!decide (4200<B.length) && decide (chkE a b B.length=0)))) ⟨[],0,0⟩:=by
 refine vspec_flat rfl rfl (fun _ _=>rfl) (Nat.le_of_ble_eq_true rfl) (oldVals w) rfl fun C hC h0=>?_
 have gr:=great_p w (n+2) s a b B hB
 by_cases h1:4200<B.length
 ·rw[decide_eq_true h1] at gr ⊢
  repeat' (first|(simp (disch:=first|omega|assumption|exact bd (by with_unfolding_all rfl)|exact Or.inl rfl|exact Or.inl trivial|exact okL_map _ (fun _=>rfl) _|(simp only[VVlen]<;>omega)|fail) only[O1,VV0,VV1,VV2,VV3,VV4,VV5,VV6,VV7,VV8,VV9,mkFnV,vargs,slotsL,opdsA,Nat.reduceEqDiff,Nat.reduceLT,Nat.reduceAdd,Nat.reduceBEq,Int.reduceAdd,Int.reduceSub,Int.reduceLT,Int.reduceLE,Int.reduceEq,Int.reduceNeg,↓reduceIte,reduceCtorEq,scL,scD,expand,List.replicate,c20])|((first|apply gI_dec|apply gG_dec|apply gPG_dec|apply gI_var|apply gG_var|apply gPG_var)<;>intro _))
  refine callV_flat (by rw[hC];exact gr.flat rfl rfl) ?_
  repeat' (first|(simp (disch:=first|omega|assumption|exact bd (by with_unfolding_all rfl)|exact Or.inl rfl|exact Or.inl trivial|exact okL_map _ (fun _=>rfl) _|(simp only[VVlen]<;>omega)|fail) only[O1,VV0,VV1,VV2,VV3,VV4,VV5,VV6,VV7,VV8,VV9,mkFnV,vargs,slotsL,opdsA,Nat.reduceEqDiff,Nat.reduceLT,Nat.reduceAdd,Nat.reduceBEq,Int.reduceAdd,Int.reduceSub,Int.reduceLT,Int.reduceLE,Int.reduceEq,Int.reduceNeg,↓reduceIte,reduceCtorEq,scL,scD,expand,List.replicate])|((first|apply gI_dec|apply gG_dec|apply gPG_dec|apply gI_var|apply gG_var|apply gPG_var)<;>intro _))
  exact weak_flat rfl h0 rfl
 ·have ck:=pcheck16_p w (n+1) s a b B (by omega)
  rw[decide_eq_false h1] at gr ⊢
  by_cases h2:chkE a b B.length=0
  ·rw[h2] at ck
   rw[decide_eq_true h2]
   repeat' (first|(simp (disch:=first|omega|assumption|exact bd (by with_unfolding_all rfl)|exact Or.inl rfl|exact Or.inl trivial|exact okL_map _ (fun _=>rfl) _|(simp only[VVlen]<;>omega)|fail) only[O1,VV0,VV1,VV2,VV3,VV4,VV5,VV6,VV7,VV8,VV9,mkFnV,vargs,slotsL,opdsA,Nat.reduceEqDiff,Nat.reduceLT,Nat.reduceAdd,Nat.reduceBEq,Int.reduceAdd,Int.reduceSub,Int.reduceLT,Int.reduceLE,Int.reduceEq,Int.reduceNeg,↓reduceIte,reduceCtorEq,scL,scD,expand,List.replicate,c20])|((first|apply gI_dec|apply gG_dec|apply gPG_dec|apply gI_var|apply gG_var|apply gPG_var)<;>intro _))
   refine callV_flat (by rw[hC];exact gr.flat rfl rfl) ?_
   repeat' (first|(simp (disch:=first|omega|assumption|exact bd (by with_unfolding_all rfl)|exact Or.inl rfl|exact Or.inl trivial|exact okL_map _ (fun _=>rfl) _|(simp only[VVlen]<;>omega)|fail) only[O1,VV0,VV1,VV2,VV3,VV4,VV5,VV6,VV7,VV8,VV9,mkFnV,vargs,slotsL,opdsA,Nat.reduceEqDiff,Nat.reduceLT,Nat.reduceAdd,Nat.reduceBEq,Int.reduceAdd,Int.reduceSub,Int.reduceLT,Int.reduceLE,Int.reduceEq,Int.reduceNeg,↓reduceIte,reduceCtorEq,scL,scD,expand,List.replicate])|((first|apply gI_dec|apply gG_dec|apply gPG_dec|apply gI_var|apply gG_var|apply gPG_var)<;>intro _))
   refine callV_flat (by rw[hC];exact ck.flat rfl rfl) ?_
   repeat' (first|(simp (disch:=first|omega|assumption|exact bd (by with_unfolding_all rfl)|exact Or.inl rfl|exact Or.inl trivial|exact okL_map _ (fun _=>rfl) _|(simp only[VVlen]<;>omega)|fail) only[O1,VV0,VV1,VV2,VV3,VV4,VV5,VV6,VV7,VV8,VV9,mkFnV,vargs,slotsL,opdsA,Nat.reduceEqDiff,Nat.reduceLT,Nat.reduceAdd,Nat.reduceBEq,Int.reduceAdd,Int.reduceSub,Int.reduceLT,Int.reduceLE,Int.reduceEq,Int.reduceNeg,↓reduceIte,reduceCtorEq,scL,scD,expand,List.replicate])|((first|apply gI_dec|apply gG_dec|apply gPG_dec|apply gI_var|apply gG_var|apply gPG_var)<;>intro _))
   exact weak_flat rfl h0 rfl
  ·rw[decide_eq_false h2]
   generalize chkE a b B.length=e at*
   repeat' (first|(simp (disch:=first|omega|assumption|exact bd (by with_unfolding_all rfl)|exact Or.inl rfl|exact Or.inl trivial|exact okL_map _ (fun _=>rfl) _|(simp only[VVlen]<;>omega)|fail) only[O1,VV0,VV1,VV2,VV3,VV4,VV5,VV6,VV7,VV8,VV9,mkFnV,vargs,slotsL,opdsA,Nat.reduceEqDiff,Nat.reduceLT,Nat.reduceAdd,Nat.reduceBEq,Int.reduceAdd,Int.reduceSub,Int.reduceLT,Int.reduceLE,Int.reduceEq,Int.reduceNeg,↓reduceIte,reduceCtorEq,scL,scD,expand,List.replicate,c20])|((first|apply gI_dec|apply gG_dec|apply gPG_dec|apply gI_var|apply gG_var|apply gPG_var)<;>intro _))
   refine callV_flat (by rw[hC];exact gr.flat rfl rfl) ?_
   repeat' (first|(simp (disch:=first|omega|assumption|exact bd (by with_unfolding_all rfl)|exact Or.inl rfl|exact Or.inl trivial|exact okL_map _ (fun _=>rfl) _|(simp only[VVlen]<;>omega)|fail) only[O1,VV0,VV1,VV2,VV3,VV4,VV5,VV6,VV7,VV8,VV9,mkFnV,vargs,slotsL,opdsA,Nat.reduceEqDiff,Nat.reduceLT,Nat.reduceAdd,Nat.reduceBEq,Int.reduceAdd,Int.reduceSub,Int.reduceLT,Int.reduceLE,Int.reduceEq,Int.reduceNeg,↓reduceIte,reduceCtorEq,scL,scD,expand,List.replicate])|((first|apply gI_dec|apply gG_dec|apply gPG_dec|apply gI_var|apply gG_var|apply gPG_var)<;>intro _))
   refine callV_flat (by rw[hC];exact ck.flat rfl rfl) ?_
   repeat' (first|(simp (disch:=first|omega|assumption|exact bd (by with_unfolding_all rfl)|exact Or.inl rfl|exact Or.inl trivial|exact okL_map _ (fun _=>rfl) _|(simp only[VVlen]<;>omega)|fail) only[O1,VV0,VV1,VV2,VV3,VV4,VV5,VV6,VV7,VV8,VV9,mkFnV,vargs,slotsL,opdsA,Nat.reduceEqDiff,Nat.reduceLT,Nat.reduceAdd,Nat.reduceBEq,Int.reduceAdd,Int.reduceSub,Int.reduceLT,Int.reduceLE,Int.reduceEq,Int.reduceNeg,↓reduceIte,reduceCtorEq,scL,scD,expand,List.replicate])|((first|apply gI_dec|apply gG_dec|apply gPG_dec|apply gI_var|apply gG_var|apply gPG_var)<;>intro _))
   exact weak_flat rfl h0 rfl
end
end Go.Proofs.YtepdkmdcainddaaDoor
namespace Go.Proofs.YtepdkmdcainddaaDoor
open Go Go.Itp
set_option maxRecDepth 100000
set_option maxHeartbeats 2000000
set_option linter.unusedSimpArgs false
set_option linter.unusedVariables false
theorem back_walk (w:World) {C:Ctx} (hC:C.E=EN w 9) (h0:C.w0.nx=0) (Q K:Int) (B:List Bool) (L:List (List Bool)) (T U:List UInt8)
  (hal:∀ st,VSpecO (EN w 9) 19 st [] (.sc (.bool true)))
  (hft:VSpec (EN w 9) 20 [gridV 3 Q K B] (.sc (.bool true)) ⟨[],0,0⟩)
  (p1:VSpec (EN w 9) 11 [gridV 3 Q K B] (.tup [strV T,.sc (.int .i64 0)]) ⟨[],0,0⟩)
  (p2:VSpec (EN w 9) 25 [strV T,.sc (.int .i64 Q)] (.tup [gridV 3 Q K B,.sc (.int .i64 0)]) ⟨[],0,0⟩)
  (p3:VSpec (EN w 9) 13 [gridV 3 Q K B] (.tup [chainV 3 0 Q L,.sc (.int .i64 0)]) ⟨[],0,0⟩)
  (p4:VSpec (EN w 9) 21 [chainV 3 0 Q L] (.sc (.int .i64 0)) ⟨[],0,0⟩)
  (p5:VSpec (EN w 9) 24 [chainV 3 0 Q L] (.tup [gridV 3 Q K B,.sc (.int .i64 0)]) ⟨[],0,0⟩)
  (p6:VSpec (EN w 9) 29 [chainV 3 0 Q L] (.tup [strV U,.sc (.int .i64 0)]) ⟨[],0,0⟩)
  (p7:VSpec (EN w 9) 27 [strV U] (.tup [chainV 3 2 Q L,.sc (.int .i64 0)]) ⟨[],0,0⟩)
  (p8:VSpec (EN w 9) 30 [chainV 3 0 Q L] (.tup [.sl 3 0 [],.sl 3 0 [],.sc (.int .i64 0)]) ⟨[],0,0⟩)
  (s1:VSpec (EN w 9) 18 [gridV 3 Q K B,gridV 3 Q K B] (.sc (.bool true)) ⟨[],0,0⟩)
  (s2:VSpec (EN w 9) 17 [chainV 3 2 Q L,chainV 3 0 Q L] (.sc (.bool true)) ⟨[],0,0⟩):
  gC C c7.code [] (vargs 0 [gridV 3 Q K B]) ⟨[],0,0⟩ (RetV C c7.res (.sc (.bool true)) ⟨[],0,0⟩):=by
 repeat' (first|(simp (disch:=first|omega|assumption|exact bd (by with_unfolding_all rfl)|exact Or.inl rfl|exact Or.inl trivial|exact okL_map _ (fun _=>rfl) _|(simp only[VVlen]<;>omega)|fail) only[O1,VV0,VV1,VV2,VV3,VV4,VV5,VV6,VV7,VV8,VV9,mkFnV,vargs,slotsL,opdsA,Nat.reduceEqDiff,Nat.reduceLT,Nat.reduceAdd,Nat.reduceBEq,Int.reduceAdd,Int.reduceSub,Int.reduceLT,Int.reduceLE,Int.reduceEq,Int.reduceNeg,↓reduceIte,reduceCtorEq,scL,scD,expand,List.replicate,c7])|((first|apply gI_dec|apply gG_dec|apply gPG_dec|apply gI_var|apply gG_var|apply gPG_var)<;>intro _))
 refine callV_flat (by rw[hC];exact hal _) ?_
 repeat' (first|(simp (disch:=first|omega|assumption|exact bd (by with_unfolding_all rfl)|exact Or.inl rfl|exact Or.inl trivial|exact okL_map _ (fun _=>rfl) _|(simp only[VVlen]<;>omega)|fail) only[O1,VV0,VV1,VV2,VV3,VV4,VV5,VV6,VV7,VV8,VV9,mkFnV,vargs,slotsL,opdsA,Nat.reduceEqDiff,Nat.reduceLT,Nat.reduceAdd,Nat.reduceBEq,Int.reduceAdd,Int.reduceSub,Int.reduceLT,Int.reduceLE,Int.reduceEq,Int.reduceNeg,↓reduceIte,reduceCtorEq,scL,scD,expand,List.replicate])|((first|apply gI_dec|apply gG_dec|apply gPG_dec|apply gI_var|apply gG_var|apply gPG_var)<;>intro _))
 refine callV_flat (by rw[hC];exact hft.flat rfl rfl) ?_
 repeat' (first|(simp (disch:=first|omega|assumption|exact bd (by with_unfolding_all rfl)|exact Or.inl rfl|exact Or.inl trivial|exact okL_map _ (fun _=>rfl) _|(simp only[VVlen]<;>omega)|fail) only[O1,VV0,VV1,VV2,VV3,VV4,VV5,VV6,VV7,VV8,VV9,mkFnV,vargs,slotsL,opdsA,Nat.reduceEqDiff,Nat.reduceLT,Nat.reduceAdd,Nat.reduceBEq,Int.reduceAdd,Int.reduceSub,Int.reduceLT,Int.reduceLE,Int.reduceEq,Int.reduceNeg,↓reduceIte,reduceCtorEq,scL,scD,expand,List.replicate])|((first|apply gI_dec|apply gG_dec|apply gPG_dec|apply gI_var|apply gG_var|apply gPG_var)<;>intro _))
 refine callV_flat (by rw[hC];exact p1.flat rfl rfl) ?_
 repeat' (first|(simp (disch:=first|omega|assumption|exact bd (by with_unfolding_all rfl)|exact Or.inl rfl|exact Or.inl trivial|exact okL_map _ (fun _=>rfl) _|(simp only[VVlen]<;>omega)|fail) only[O1,VV0,VV1,VV2,VV3,VV4,VV5,VV6,VV7,VV8,VV9,mkFnV,vargs,slotsL,opdsA,Nat.reduceEqDiff,Nat.reduceLT,Nat.reduceAdd,Nat.reduceBEq,Int.reduceAdd,Int.reduceSub,Int.reduceLT,Int.reduceLE,Int.reduceEq,Int.reduceNeg,↓reduceIte,reduceCtorEq,scL,scD,expand,List.replicate])|((first|apply gI_dec|apply gG_dec|apply gPG_dec|apply gI_var|apply gG_var|apply gPG_var)<;>intro _))
 refine callV_fin (by rw[hC];exact p2) rfl rfl (fun _=>rfl) ?_
 repeat' (first|(simp (disch:=first|omega|assumption|exact bd (by with_unfolding_all rfl)|exact Or.inl rfl|exact Or.inl trivial|exact okL_map _ (fun _=>rfl) _|(simp only[VVlen]<;>omega)|fail) only[O1,VV0,VV1,VV2,VV3,VV4,VV5,VV6,VV7,VV8,VV9,mkFnV,vargs,slotsL,opdsA,Nat.reduceEqDiff,Nat.reduceLT,Nat.reduceAdd,Nat.reduceBEq,Int.reduceAdd,Int.reduceSub,Int.reduceLT,Int.reduceLE,Int.reduceEq,Int.reduceNeg,↓reduceIte,reduceCtorEq,scL,scD,expand,List.replicate])|((first|apply gI_dec|apply gG_dec|apply gPG_dec|apply gI_var|apply gG_var|apply gPG_var)<;>intro _))
 refine callV_fin (by rw[hC];exact p3) rfl rfl (fun _=>rfl) ?_
 repeat' (first|(simp (disch:=first|omega|assumption|exact bd (by with_unfolding_all rfl)|exact Or.inl rfl|exact Or.inl trivial|exact okL_map _ (fun _=>rfl) _|(simp only[VVlen]<;>omega)|fail) only[O1,VV0,VV1,VV2,VV3,VV4,VV5,VV6,VV7,VV8,VV9,mkFnV,vargs,slotsL,opdsA,Nat.reduceEqDiff,Nat.reduceLT,Nat.reduceAdd,Nat.reduceBEq,Int.reduceAdd,Int.reduceSub,Int.reduceLT,Int.reduceLE,Int.reduceEq,Int.reduceNeg,↓reduceIte,reduceCtorEq,scL,scD,expand,List.replicate])|((first|apply gI_dec|apply gG_dec|apply gPG_dec|apply gI_var|apply gG_var|apply gPG_var)<;>intro _))
 refine callV_flat (by rw[hC];exact s1.flat rfl rfl) ?_
 repeat' (first|(simp (disch:=first|omega|assumption|exact bd (by with_unfolding_all rfl)|exact Or.inl rfl|exact Or.inl trivial|exact okL_map _ (fun _=>rfl) _|(simp only[VVlen]<;>omega)|fail) only[O1,VV0,VV1,VV2,VV3,VV4,VV5,VV6,VV7,VV8,VV9,mkFnV,vargs,slotsL,opdsA,Nat.reduceEqDiff,Nat.reduceLT,Nat.reduceAdd,Nat.reduceBEq,Int.reduceAdd,Int.reduceSub,Int.reduceLT,Int.reduceLE,Int.reduceEq,Int.reduceNeg,↓reduceIte,reduceCtorEq,scL,scD,expand,List.replicate])|((first|apply gI_dec|apply gG_dec|apply gPG_dec|apply gI_var|apply gG_var|apply gPG_var)<;>intro _))
 refine callV_flat (by rw[hC];exact p4.flat rfl rfl) ?_
 repeat' (first|(simp (disch:=first|omega|assumption|exact bd (by with_unfolding_all rfl)|exact Or.inl rfl|exact Or.inl trivial|exact okL_map _ (fun _=>rfl) _|(simp only[VVlen]<;>omega)|fail) only[O1,VV0,VV1,VV2,VV3,VV4,VV5,VV6,VV7,VV8,VV9,mkFnV,vargs,slotsL,opdsA,Nat.reduceEqDiff,Nat.reduceLT,Nat.reduceAdd,Nat.reduceBEq,Int.reduceAdd,Int.reduceSub,Int.reduceLT,Int.reduceLE,Int.reduceEq,Int.reduceNeg,↓reduceIte,reduceCtorEq,scL,scD,expand,List.replicate])|((first|apply gI_dec|apply gG_dec|apply gPG_dec|apply gI_var|apply gG_var|apply gPG_var)<;>intro _))
 refine callV_fin (by rw[hC];exact p5) rfl rfl (fun _=>rfl) ?_
 repeat' (first|(simp (disch:=first|omega|assumption|exact bd (by with_unfolding_all rfl)|exact Or.inl rfl|exact Or.inl trivial|exact okL_map _ (fun _=>rfl) _|(simp only[VVlen]<;>omega)|fail) only[O1,VV0,VV1,VV2,VV3,VV4,VV5,VV6,VV7,VV8,VV9,mkFnV,vargs,slotsL,opdsA,Nat.reduceEqDiff,Nat.reduceLT,Nat.reduceAdd,Nat.reduceBEq,Int.reduceAdd,Int.reduceSub,Int.reduceLT,Int.reduceLE,Int.reduceEq,Int.reduceNeg,↓reduceIte,reduceCtorEq,scL,scD,expand,List.replicate])|((first|apply gI_dec|apply gG_dec|apply gPG_dec|apply gI_var|apply gG_var|apply gPG_var)<;>intro _))
 refine callV_flat (by rw[hC];exact p6.flat rfl rfl) ?_
 repeat' (first|(simp (disch:=first|omega|assumption|exact bd (by with_unfolding_all rfl)|exact Or.inl rfl|exact Or.inl trivial|exact okL_map _ (fun _=>rfl) _|(simp only[VVlen]<;>omega)|fail) only[O1,VV0,VV1,VV2,VV3,VV4,VV5,VV6,VV7,VV8,VV9,mkFnV,vargs,slotsL,opdsA,Nat.reduceEqDiff,Nat.reduceLT,Nat.reduceAdd,Nat.reduceBEq,Int.reduceAdd,Int.reduceSub,Int.reduceLT,Int.reduceLE,Int.reduceEq,Int.reduceNeg,↓reduceIte,reduceCtorEq,scL,scD,expand,List.replicate])|((first|apply gI_dec|apply gG_dec|apply gPG_dec|apply gI_var|apply gG_var|apply gPG_var)<;>intro _))
 refine callV_fin (by rw[hC];exact p7) rfl rfl (fun _=>rfl) ?_
 repeat' (first|(simp (disch:=first|omega|assumption|exact bd (by with_unfolding_all rfl)|exact Or.inl rfl|exact Or.inl trivial|exact okL_map _ (fun _=>rfl) _|(simp only[VVlen]<;>omega)|fail) only[O1,VV0,VV1,VV2,VV3,VV4,VV5,VV6,VV7,VV8,VV9,mkFnV,vargs,slotsL,opdsA,Nat.reduceEqDiff,Nat.reduceLT,Nat.reduceAdd,Nat.reduceBEq,Int.reduceAdd,Int.reduceSub,Int.reduceLT,Int.reduceLE,Int.reduceEq,Int.reduceNeg,↓reduceIte,reduceCtorEq,scL,scD,expand,List.replicate])|((first|apply gI_dec|apply gG_dec|apply gPG_dec|apply gI_var|apply gG_var|apply gPG_var)<;>intro _))
 refine callV_fin (by rw[hC];exact p8) rfl rfl (fun _=>rfl) ?_
 repeat' (first|(simp (disch:=first|omega|assumption|exact bd (by with_unfolding_all rfl)|exact Or.inl rfl|exact Or.inl trivial|exact okL_map _ (fun _=>rfl) _|(simp only[VVlen]<;>omega)|fail) only[O1,VV0,VV1,VV2,VV3,VV4,VV5,VV6,VV7,VV8,VV9,mkFnV,vargs,slotsL,opdsA,Nat.reduceEqDiff,Nat.reduceLT,Nat.reduceAdd,Nat.reduceBEq,Int.reduceAdd,Int.reduceSub,Int.reduceLT,Int.reduceLE,Int.reduceEq,Int.reduceNeg,↓reduceIte,reduceCtorEq,scL,scD,expand,List.replicate])|((first|apply gI_dec|apply gG_dec|apply gPG_dec|apply gI_var|apply gG_var|apply gPG_var)<;>intro _))
 refine callV_flat (by rw[hC];exact s1.flat rfl rfl) ?_
 repeat' (first|(simp (disch:=first|omega|assumption|exact bd (by with_unfolding_all rfl)|exact Or.inl rfl|exact Or.inl trivial|exact okL_map _ (fun _=>rfl) _|(simp only[VVlen]<;>omega)|fail) only[O1,VV0,VV1,VV2,VV3,VV4,VV5,VV6,VV7,VV8,VV9,mkFnV,vargs,slotsL,opdsA,Nat.reduceEqDiff,Nat.reduceLT,Nat.reduceAdd,Nat.reduceBEq,Int.reduceAdd,Int.reduceSub,Int.reduceLT,Int.reduceLE,Int.reduceEq,Int.reduceNeg,↓reduceIte,reduceCtorEq,scL,scD,expand,List.replicate])|((first|apply gI_dec|apply gG_dec|apply gPG_dec|apply gI_var|apply gG_var|apply gPG_var)<;>intro _))
 refine callV_flat (by rw[hC];exact s2.flat rfl rfl) ?_
 repeat' (first|(simp (disch:=first|omega|assumption|exact bd (by with_unfolding_all rfl)|exact Or.inl rfl|exact Or.inl trivial|exact okL_map _ (fun _=>rfl) _|(simp only[VVlen]<;>omega)|fail) only[O1,VV0,VV1,VV2,VV3,VV4,VV5,VV6,VV7,VV8,VV9,mkFnV,vargs,slotsL,opdsA,Nat.reduceEqDiff,Nat.reduceLT,Nat.reduceAdd,Nat.reduceBEq,Int.reduceAdd,Int.reduceSub,Int.reduceLT,Int.reduceLE,Int.reduceEq,Int.reduceNeg,↓reduceIte,reduceCtorEq,scL,scD,expand,List.replicate])|((first|apply gI_dec|apply gG_dec|apply gPG_dec|apply gI_var|apply gG_var|apply gPG_var)<;>intro _))
 exact weak_flat rfl h0 rfl
theorem back_g (w:World) (a b:Int) (B:List Bool) (hB:B.length≤140737488351232) (hes:(errO Tryd.prog w "strconv.ErrSyntax").isSome=true) (her:(errO Tryd.prog w "strconv.ErrRange").isSome=true) {C:Ctx} (hC:C.E=EN w 9) (h0:C.w0.nx=0):
  gC C c7.code [] (vargs 0 [gridV 3 a b B]) ⟨[],0,0⟩ (RetV C c7.res (.sc (.bool true)) ⟨[],0,0⟩):=by
 have hal:=fun st=>alive_o w 8 st
 have hft:=fit_p w 5 3 a b B hB
 by_cases hg:4200<B.length∨chkE a b B.length ≠ 0
 ·have e:(!decide (4200<B.length) && decide (chkE a b B.length=0))=false:=by
   rcases hg with h|h
   ·simp[h]
   ·simp[h]
  rw[e] at hft
  repeat' (first|(simp (disch:=first|omega|assumption|exact bd (by with_unfolding_all rfl)|exact Or.inl rfl|exact Or.inl trivial|exact okL_map _ (fun _=>rfl) _|(simp only[VVlen]<;>omega)|fail) only[O1,VV0,VV1,VV2,VV3,VV4,VV5,VV6,VV7,VV8,VV9,mkFnV,vargs,slotsL,opdsA,Nat.reduceEqDiff,Nat.reduceLT,Nat.reduceAdd,Nat.reduceBEq,Int.reduceAdd,Int.reduceSub,Int.reduceLT,Int.reduceLE,Int.reduceEq,Int.reduceNeg,↓reduceIte,reduceCtorEq,scL,scD,expand,List.replicate,c7])|((first|apply gI_dec|apply gG_dec|apply gPG_dec|apply gI_var|apply gG_var|apply gPG_var)<;>intro _))
  refine callV_flat (by rw[hC];exact hal _) ?_
  repeat' (first|(simp (disch:=first|omega|assumption|exact bd (by with_unfolding_all rfl)|exact Or.inl rfl|exact Or.inl trivial|exact okL_map _ (fun _=>rfl) _|(simp only[VVlen]<;>omega)|fail) only[O1,VV0,VV1,VV2,VV3,VV4,VV5,VV6,VV7,VV8,VV9,mkFnV,vargs,slotsL,opdsA,Nat.reduceEqDiff,Nat.reduceLT,Nat.reduceAdd,Nat.reduceBEq,Int.reduceAdd,Int.reduceSub,Int.reduceLT,Int.reduceLE,Int.reduceEq,Int.reduceNeg,↓reduceIte,reduceCtorEq,scL,scD,expand,List.replicate])|((first|apply gI_dec|apply gG_dec|apply gPG_dec|apply gI_var|apply gG_var|apply gPG_var)<;>intro _))
  refine callV_flat (by rw[hC];exact hft.flat rfl rfl) ?_
  repeat' (first|(simp (disch:=first|omega|assumption|exact bd (by with_unfolding_all rfl)|exact Or.inl rfl|exact Or.inl trivial|exact okL_map _ (fun _=>rfl) _|(simp only[VVlen]<;>omega)|fail) only[O1,VV0,VV1,VV2,VV3,VV4,VV5,VV6,VV7,VV8,VV9,mkFnV,vargs,slotsL,opdsA,Nat.reduceEqDiff,Nat.reduceLT,Nat.reduceAdd,Nat.reduceBEq,Int.reduceAdd,Int.reduceSub,Int.reduceLT,Int.reduceLE,Int.reduceEq,Int.reduceNeg,↓reduceIte,reduceCtorEq,scL,scD,expand,List.replicate])|((first|apply gI_dec|apply gG_dec|apply gPG_dec|apply gI_var|apply gG_var|apply gPG_var)<;>intro _))
  exact weak_flat rfl h0 rfl
 have hg1:¬ 4200<B.length:=fun h=>hg (.inl h)
 have hfit:chkE a b B.length=0:=Decidable.byContradiction fun h=>hg (.inr h)
 have e:(!decide (4200<B.length) && decide (chkE a b B.length=0))=true:=by simp[hg1,hfit]
 rw[e] at hft
 obtain ⟨Q,K,rfl,rfl,hQ,hK,hL⟩:=fit_facts hfit
 have hTl:=plan_len B Q hQ.2 K
 have hTl2:900*K≤57600:=by omega
 have p1:=plan_p w 4 3 Q K B hfit hQ hK hL
 have p2:=read_p w 0 (planTo B Q K) Q (by omega) hQ.1 hQ.2 hes her
 rw[read_plan B Q K hQ hK hL] at p2
 have p3:=encode_p w 5 3 Q K B hfit hQ hK hL
 have hlen:=encV_len B Q K
 have hval:=enc_valid B Q K hQ hK
 have hr41:=fun k=>enc_rows41 B Q K k hQ.2
 have p4:=chain_p w 8 3 0 Q (encV B Q K)
 rw[if_pos hval] at p4
 have hwA:wrongA Q (encV B Q K)= []:=by
  unfold wrongA
  rw[if_pos hval,hlen]
  exact sel_none _ fun i hi=>encV_card B Q K i hi
 have hwB:wrongB Q (encV B Q K)= []:=by
  unfold wrongB
  rw[if_pos hval,show ((Q:Int)+1).toNat=Q+1 by omega]
  exact sel_none _ fun i hi=>encV_place B Q K i hi
 have hwE:wrongE Q (encV B Q K)=0:=if_pos hval
 have p5:=decode_p w 3 3 0 Q (encV B Q K) (by decide) (by decide) (by omega) hr41 ⟨by omega,by omega⟩
 have hdV:decV Q (encV B Q K)= .tup [gridV 3 Q K B,.sc (.int .i64 0)]:=by
  unfold decV
  rw[if_pos hwE,if_pos ⟨hwA,hwB⟩,hlen,Nat.add_sub_cancel,Int.toNat_natCast,dec_enc B Q K hL]
 rw[hdV] at p5
 have p6:=text_p w 4 3 0 Q (encV B Q K) (by decide) hval
 have htl:=textC_len (encV B Q K) 41 (fun k hk=>by rw[hlen] at hk;rw[encV_row B Q K k hk];omega) (encV B Q K).length (Nat.le_refl _)
 rw[List.take_length,hlen] at htl
 have htl2:(K+1)*42≤65*42:=Nat.mul_le_mul (by omega) (Nat.le_refl _)
 have p7:=parse_p w 4 (textC (encV B Q K)) (by omega)
 rw[parse18_text hval] at p7
 have p8:=wrong_p w 4 3 0 Q (encV B Q K) (by decide) (by omega) hr41 ⟨by omega,by omega⟩
 have hwV:wrongV Q (encV B Q K)= .tup [.sl 3 0 [],.sl 3 0 [],.sc (.int .i64 0)]:=by simp[wrongV,hwA,hwB,hwE]
 rw[hwV] at p8
 have s1:=same01_p w 8 3 3 Q K B (by omega)
 have s2:=same17_p w 8 3 2 3 0 Q (encV B Q K) (by omega) hr41
 exact back_walk w hC h0 Q K B (encV B Q K) (planTo B Q K) (textC (encV B Q K)) hal hft p1 p2 (by rw[← hlen] at p3;exact p3) p4 p5 p6 p7 p8 s1 s2
end Go.Proofs.YtepdkmdcainddaaDoor
namespace Go.Proofs.YtepdkmdcainddaaDoor
open Go Go.Itp
open Go.ChangeShapes Go.WideShapes Go.ChangeAt Go.RowKit
set_option linter.unusedVariables false
set_option maxRecDepth 100000
set_option maxHeartbeats 4000000
theorem reach_lt:reachBytes≤140737488351232:=by decide
theorem slice_t {P:Program} {W:World} {base:Nat} {held:Bool} {H:Type} {enc:TypeId × Value→H} {t e:TypeId} {n:Nat} {v:Value} {x:DataW H × List MemPlace} (ht:P.underlying t=some (.slice e)) (h:DataW.trod enc P W base (fun _=>true) held n t [v]=some x):v= .slice none 0 0∨∃ a n c,v= .slice (some a) n c:=by
 rcases DataW.trod_slice ht h with ⟨h1,_⟩|⟨a,len,cap,_,_,_,_,h1,_⟩
 ·exact .inl (by simpa using h1)
 ·exact .inr ⟨_,_,_,by simpa using h1⟩
theorem open_grid {H:Type} {enc:TypeId × Value→H} {W:World} {b:Nat} {held:Bool} {v:Value} {d:DataW H} {ps:List MemPlace} (hv:Value.okWide Tryd.prog W .any b 24 v) (h:DataW.Trod enc Tryd.prog W 0 (fun _=>true) held 24 v d ps)
  (hsz:∀ n ∈ d.weights Tryd.prog 24,n≤reachBytes):
  ∃ (x y:Int) (B:List Bool),VRep (wOld (oldOf W)) (gridV 3 x y B) v∧ids 0 v= []∧B.length≤reachBytes:=by
 obtain ⟨n,a0,a1,a2,y0,y1,y2,rfl,e0,e1,e2,h0,h1,h2,w0,w1,w2⟩:=open_three Tryd.underlying24 rfl rfl rfl (by kernel_rfl) (by kernel_rfl) (by kernel_rfl) (by kernel_rfl) hv h hsz
 obtain ⟨x,k0,_,j0⟩:=DataW.trod_int Tryd.underlying3 h0
 simp only[List.cons.injEq,and_true] at k0
 subst k0
 obtain ⟨y,k1,_,j1⟩:=DataW.trod_int Tryd.underlying3 h1
 simp only[List.cons.injEq,and_true] at k1
 subst k1
 obtain ⟨B,v1,v2,v3⟩:=rd_bools Tryd.underlying22 Tryd.underlying4 (by kernel_rfl) (by rw[show Tryd.prog.bytesOf 4=1 by kernel_rfl];decide) h2 w2
 rw[show Tryd.prog.bytesOf 4=1 by kernel_rfl] at v3
 rw[e2] at v1 v2
 refine ⟨x,y,B,?_,?_,by omega⟩
 ·have hb:VRep (wOld (oldOf W)) (.sl 3 B.length (B.map bD)) a2:=vrep_old bD (v1 []) v2 (slice_t Tryd.underlying22 h2) (fun z _=>by simp only[bD,DRep,scOK,and_self])
  unfold gridV
  rw[VRep]
  refine ⟨[.int .i64 x,.int .i64 y,a2],rfl,?_⟩
  simp only[VRepL]
  exact ⟨_,_,rfl,.mksc rfl,_,_,rfl,.mksc rfl,_,_,rfl,hb,rfl⟩
 ·rw[ids_agg,idsL_cons,idsL_cons,idsL_cons,abs_ids e2 v2 (trod_is_slice Tryd.underlying22 h2)]
  rfl
def listed:List (String × DataW Unit):= [("math/bits.deBruijn32tab",Rows.laid_math_bits_deBruijn32tab),("math/bits.deBruijn64tab",Rows.laid_math_bits_deBruijn64tab),("internal/strconv.uint64pow10",Rows.laid_internal_strconv_uint64pow10),("unicode/utf8.acceptRanges",Rows.laid_unicode_utf8_acceptRanges),("strconv.ErrRange",Rows.laid_strconv_ErrRange),("strconv.ErrSyntax",Rows.laid_strconv_ErrSyntax),("unicode/utf8.first",Rows.laid_unicode_utf8_first)]
theorem listed_met (os:Os) (args:Array Value):laidMetH Tryd.prog listed ((World.laidAll Tryd.prog os listed).forCall (fun _ _=>0) ⟨#[],args,[]⟩).memory:=by
 rw[MakeChecks.laidMetH_plain _ _ _ (by kernel_rfl)]
 exact laidMet_laidAll _ (by kernel_rfl) (by kernel_rfl)
theorem listed_shaped (os:Os):(World.laidAll Tryd.prog os listed).Shaped Tryd.prog:=World.shaped_of_ZipB (by kernel_rfl) (by kernel_rfl)
theorem stand_ins {l:List TypeId} {t:TypeId} (hall:(l.all fun u=> !Tryd.prog.wantsStandIn u)=true) (h:t ∈ l):Tryd.prog.wantsStandIn t=false:=by
 have:=List.all_eq_true.1 hall t h
 simpa using this
theorem back_lifted (os:Os) (started:os.Started) (H:Type) (enc:TypeId × Value→H):
  ReturnsInHanded {} Tryd.checked os 7 .any (fun w args=>(Rows.pegBackSpec.pre enc Tryd.prog Tryd.f7 [] false w args∧laidMetH Tryd.prog listed w)∧sizedMet enc Tryd.prog Tryd.f7 (OpenSpec.ofChange Rows.pegBackSpec) false w args)
   (Rows.pegBackSpec.post enc Tryd.prog Tryd.f7 false true false false):=by
 refine returnsInHanded_of_change_and (C:=Tryd.checked) (X:=fun w _=>laidMetH Tryd.prog listed w) (fun _ _ _ hh h=>h.of_heap hh) own started (by kernel_rfl) Tryd.func7
  (ChangeSpec.witness_shaped (enc:=enc) (C:=Tryd.checked) (os:=os) (X:=fun w _=>laidMetH Tryd.prog listed w) false (World.laidAll Tryd.prog os listed) #[.agg #[.int .i64 0,.int .i64 0,.slice none 0 0]] 8 (World.laidAll_os _ _ _) (listed_shaped os) (by kernel_rfl) (by kernel_rfl) (by kernel_rfl) (listed_met os _)) ?_
 intro W base args ds gs before hval0 hW _ hsz0 hL _
 have hval:∀ (j:Nat) t v,Tryd.f7.params[j]? =some t→args[j]? =some v→Value.okWide Tryd.prog W .any base t v:=hval0
 have hW':=hW
 obtain ⟨p,q,hA0,hV,rfl,hfz,hnd⟩:=hW
 have hA:DataW.TrodAll enc Tryd.prog W 0 (fun _=>true) true Tryd.f7.params.toList args.toList ds p:=hA0
 have hsz:(DataW.weightsEach Tryd.prog (Tryd.f7.params.toList++Rows.pegBackSpec.plain.varTypes Tryd.prog) (ds++gs)).all (· ≤reachBytes)=true:=hsz0
 rw[Tryd.params7] at hA hval hsz
 obtain ⟨v0,vs0,d0,ds0,p0,q0,hargs,rfl,rfl,h0,r0⟩:=trodAll_cons hA
 obtain ⟨rfl,rfl,rfl⟩:=trodAll_nil r0
 obtain rfl:args=#[v0]:=by cases args;simp_all
 have hr:=reach_lt
 obtain ⟨gx0,gy0,B0,hv0,hli0,hB0⟩:=open_grid (hval 0 24 v0 rfl rfl) h0 (weights_at (j:=0) hsz rfl rfl)
 have hLm:laidMet Tryd.prog listed W:=by rw[← MakeChecks.laidMetH_plain _ _ _ (by kernel_rfl)];exact hL
 have htab:Tab W:=laid_tab hLm 2 rfl (g:=2) (t:=136) (e:=119) (k:= .u64) (m:=20) (by kernel_rfl) (by kernel_rfl) Tryd.underlying136 Tryd.underlying119 (by kernel_rfl) (by kernel_rfl) rfl
 have hesy:(errO Tryd.prog W "strconv.ErrSyntax").isSome=true:=laid_errO hLm 5 rfl (g:=0) (t:=72) (by kernel_rfl) (by kernel_rfl) Tryd.underlying72
 have herr:(errO Tryd.prog W "strconv.ErrRange").isSome=true:=laid_errO hLm 4 rfl (g:=1) (t:=72) (by kernel_rfl) (by kernel_rfl) Tryd.underlying72
 obtain ⟨s',hbody⟩:=law_v (old:=oldOf W) (rounds:=many) (fns:=fns) (prims:=PR W) (n:=9) (af:=c7) (xs:= [gridV 3 gx0 gy0 B0]) (xsI:= [v0]) (x:= .bool true) (Nat.le_of_ble_eq_true rfl)
  (by simp only[VRepL];exact ⟨_,_,rfl,hv0,rfl⟩) fun C hC hn=>back_g W gx0 gy0 B0 (by omega) hesy herr hC hn
 have hfn:fns 7=some c7:=rfl
 have hrv:ids 0 (.bool true)= []:=rfl
 refine (law_of htab (f:=7) (af:=c7) hfn (xs:= [v0]) (by simp only[idsL_cons,hli0];rfl) _ hbody hrv).mono fun e W' ⟨he,hbe⟩=>?_
 exact ⟨_,he,law_post hW' rfl rfl (by kernel_rfl) (by kernel_rfl) Tryd.underlying4 hbe⟩
theorem back_over:Rows.PegBackSaid:=
 OpenClaim.holds_of_wide 7 Tryd.f7 rfl rfl rfl rfl rfl rfl rfl ⟨rfl,rfl,rfl,rfl,rfl⟩ rfl rfl rfl rfl rfl (by kernel_rfl) Tryd.func7 (by kernel_rfl)
  (of_decide_eq_true (by kernel_rfl)) (by unfold Func.isWrapper;first|(rw[if_pos (by decide+kernel)];kernel_rfl)|(rw[if_neg (by decide+kernel)];exact ⟨rfl,rfl⟩))
  (fun os started H enc _=>back_lifted os started H enc)
theorem back_holds:Rows.PegBackCardSaid:=
 Claim7.holds_tied_plain_at .later [] [.data,.data,.data,.data,.sentinel,.sentinel,.pinned] true _ true
  back_over (fun _ h=>by cases h) (by kernel_rfl) (fun _ h=>by cases h) pegBack_row_tie rfl ⟨rfl,rfl⟩ (by kernel_rfl) rfl
  (fun f fn hf hfn=>by
   obtain rfl:f=7:=Option.some.inj ((show Tryd.prog.funcNamed "raddle/raddlelaw18.PegBack"=some 7 by kernel_rfl).symm.trans hf)|>.symm
   obtain rfl:fn=Tryd.f7:=(Option.some.inj (Tryd.func7.symm.trans hfn)).symm
   exact ⟨by kernel_rfl,fun j t ht=>stand_ins (l:= [24]) (by kernel_rfl) (by rw[Tryd.params7] at ht;simpa using Array.mem_of_getElem? ht)⟩)
  (by kernel_rfl)
#print axioms back_holds
end Go.Proofs.YtepdkmdcainddaaDoor
