/- What is proved: the law GradeBack returns true for every input. Conditions: none beyond the card's own.
   Texts: G40i, G40j, G40k, G40l, G40m, G40n, G40o, G40p, G40q, G40r, G40s, G40t, G40u, G40v, G40w.
-/
import Derived.Test.YteibgbbfcjgjiaaDoorPart5
import Derived.Lib.Bytealg
import Derived.Lib.ItoaLen
import Derived.Test.YteibgbbfcjgjiaaDoorCards
import Derived.Test.YteibgbbfcjgjiaaDoorTie
import Derived.SizedLaws
import Derived.ChangeAt
import Derived.SevenTiedAt
import Derived.Stop.Joined
import Derived.Lay
namespace Go.Proofs.YteibgbbfcjgjiaaDoor
open Go Go.Itp
set_option maxRecDepth 100000
set_option maxHeartbeats 1000000
set_option linter.unusedSimpArgs false
set_option linter.unusedVariables false
theorem count_words (c:UInt8):∀ (m:Nat) (l:List UInt8),l.length≤m→(words c l).length=Lib.countByte l c+1
 |m,l,hm=>by
  rcases byte_split c l with h|⟨a,r,rfl,h⟩
  ·rw[words_free h]
   unfold Lib.countByte
   rw[List.count_eq_zero_of_not_mem h]
   rfl
  ·rw[words_app r h]
   cases m with
   |zero=>simp at hm
   |succ m=>
    have ih:=count_words c m r (by simp at hm;omega)
    unfold Lib.countByte at ih ⊢
    rw[List.length_cons,ih,List.count_append,List.count_eq_zero_of_not_mem h,List.count_cons_self]
    omega
theorem vslc_hiR (e o k n c:Nat) (j:IntKind) (b:Int) (h0:0≤b) (h1:b≤c) (hc:c<1000000000000) (hc0:c ≠ 0):vslc e none (some (.int j b)) none (.ref o k n c)=some (.ref o k b.toNat c):=by
 have h2:Nat.blt c big=true:=by rw[Nat.blt_eq];unfold big;omega
 have h3:Nat.beq c 0=false:=nbf.2 hc0
 have h4:slcN n c none (some (.int j b)) none=some (0,b.toNat,c,false):=by
  simp only[slcN,knownCap,h2,if_true,bndNat]
  rw[if_pos ⟨h0,h1⟩]
  simp[h3,h2]
 simp only[vslc,h4,Option.map_some]
 simp
def fillS (dn:List (List UInt8)) (N:Nat):List D:=dn.map sD++List.replicate (N - dn.length) (sD [])
theorem fillS_len (dn:List (List UInt8)) (N:Nat) (h:dn.length≤N):(fillS dn N).length=N:=by simp[fillS];omega
theorem fillS_set (dn:List (List UInt8)) (x:List UInt8) (N:Nat) (h:dn.length<N):(fillS dn N).set dn.length (sD x)=fillS (dn++ [x]) N:=by
 unfold fillS
 rw[List.set_append_right _ _ (by simp),List.length_map,Nat.sub_self,show N - dn.length=(N - (dn.length+1))+1 by omega,List.replicate_succ,List.length_append]
 simp
theorem fillS_all (dn:List (List UInt8)) (N:Nat) (h:dn.length=N):fillS dn N=dn.map sD:=by simp[fillS,h]
section
variable (w:World) (n:Nat)
theorem countString_o (st:VSt) (l:List UInt8) (c:UInt8):VSpecO (EN w (n+1)) 82 st [strV l,.sc (.int .u8 c.toNat)] (.sc (.int .i64 (Lib.countByte l c))):=by
 refine prim_o (ys:= [.string ⟨l.toArray⟩,.int .u8 c.toNat]) (fun s=>?_) rfl
 refine orElse_right rfl (orElse_left ?_)
 show primA .count 0 [.string ⟨l.toArray⟩,.int .u8 c.toNat] s=_
 unfold primA
 simp only[Int.toNat_natCast]
 have e:c.toNat.toUInt8=c:=by simp
 rw[Lib.foldl_data,Lib.count_foldl,e]
 simp
theorem count_p (l:List UInt8) (c:UInt8) (hl:l.length≤1000000000):VSpec (EN w (n+2)) 67 [strV l,strV [c]] (.sc (.int .i64 (Lib.countByte l c))) ⟨[],0,0⟩:=by
 refine vspec_flat rfl rfl (fun _ _=>rfl) (Nat.le_of_ble_eq_true rfl) (oldVals w) rfl fun C hC h0=>?_
 have h1:(ByteArray.mk [c].toArray).size=1:=rfl
 have hb:idxStrV (strV [c]) (.sc (.int .i64 0))=some (.sc (.int .u8 c.toNat)):=by
  rw[idxStr_l _ _ _ (by omega) (by simp)]
  rfl
 repeat' (first|(simp (disch:=first|omega|assumption|exact bd (by with_unfolding_all rfl)|exact Or.inl rfl|exact Or.inl trivial|exact okL_map _ (fun _=>rfl) _|(simp only[VVlen]<;>omega)|fail) only[O1,VV0,VV1,VV2,VV3,VV4,VV5,VV6,VV7,VV8,VV9,mkFnV,vargs,slotsL,opdsA,Nat.reduceEqDiff,Nat.reduceLT,Nat.reduceAdd,Nat.reduceBEq,Int.reduceAdd,Int.reduceSub,Int.reduceLT,Int.reduceLE,Int.reduceEq,Int.reduceNeg,↓reduceIte,reduceCtorEq,scL,scD,expand,List.replicate,c67,h1,hb])|apply gC_drawW|((first|apply gI_dec|apply gG_dec|apply gPG_dec|apply gI_var|apply gG_var|apply gPG_var)<;>intro _))
 refine callV_flat (by rw[hC];exact countString_o w n _ l c) ?_
 repeat' (first|(simp (disch:=first|omega|assumption|exact bd (by with_unfolding_all rfl)|exact Or.inl rfl|exact Or.inl trivial|exact okL_map _ (fun _=>rfl) _|(simp only[VVlen]<;>omega)|fail) only[O1,VV0,VV1,VV2,VV3,VV4,VV5,VV6,VV7,VV8,VV9,mkFnV,vargs,slotsL,opdsA,Nat.reduceEqDiff,Nat.reduceLT,Nat.reduceAdd,Nat.reduceBEq,Int.reduceAdd,Int.reduceSub,Int.reduceLT,Int.reduceLE,Int.reduceEq,Int.reduceNeg,↓reduceIte,reduceCtorEq,scL,scD,expand,List.replicate])|apply gC_drawW|((first|apply gI_dec|apply gG_dec|apply gPG_dec|apply gI_var|apply gG_var|apply gPG_var)<;>intro _))
 exact weak_flat rfl h0 rfl
theorem gsplit_p (l:List UInt8) (c:UInt8) (hl:l.length≤1000000):VSpec (EN w (n+5)) 54 [strV l,strV [c],.sc (.int .i64 0),.sc (.int .i64 (-1))] (.ref 0 0 (words c l).length (words c l).length) ⟨[(0,.row 9 1 false false ((words c l).map sD))],1,0⟩:=by
 refine vspec_g rfl rfl (fun _ _=>rfl) (Nat.le_of_ble_eq_true rfl) (oldVals w) retOK_ref rfl fun C hC h0=>?_
 have h1:(ByteArray.mk [c].toArray).size=1:=rfl
 have hne:¬ (ByteArray.mk [c].toArray=ByteArray.mk #[]):=fun h=>by
  have:=congrArg (fun b:ByteArray=>b.data.toList) h
  simp at this
 have hsz:=mk_size l
 have hcw:=count_words c l.length l (Nat.le_refl _)
 have hwl:=(words_len (c:=c) l.length (s:=l) (Nat.le_refl _)).1
 repeat' (first|(simp (disch:=first|omega|assumption|exact bd (by with_unfolding_all rfl)|exact Or.inl rfl|exact Or.inl trivial|exact okL_map _ (fun _=>rfl) _|(simp only[VVlen]<;>omega)|fail) only[O1,VV0,VV1,VV2,VV3,VV4,VV5,VV6,VV7,VV8,VV9,mkFnV,vargs,slotsL,opdsA,Nat.reduceEqDiff,Nat.reduceLT,Nat.reduceAdd,Nat.reduceBEq,Int.reduceAdd,Int.reduceSub,Int.reduceLT,Int.reduceLE,Int.reduceEq,Int.reduceNeg,↓reduceIte,reduceCtorEq,scL,scD,expand,List.replicate,c54,hne])|apply gC_drawW|((first|apply gI_dec|apply gG_dec|apply gPG_dec|apply gI_var|apply gG_var|apply gPG_var)<;>intro _))
 refine callV_flat ((count_p w (n+2) l c (by omega)).of hC rfl _ rfl) ?_
 generalize hN:Lib.countByte l c=N at*
 have hmin:min ((N:Int)+1) (((ByteArray.mk l.toArray).size:Int)+1)=((N+1:Nat):Int):=by rw[hsz];omega
 have hNs:((N+1:Nat):Int) - 1=(N:Int):=by omega
 have hN1:(((N+1:Nat):Int)).toNat=N+1:=by omega
 have hr0:D.sc (Value.string ⟨#[]⟩)::List.replicate N (D.sc (Value.string ⟨#[]⟩))=fillS [] (N+1):=by simp[fillS,sD,List.replicate_succ]
 repeat' (first|(simp (disch:=first|omega|assumption|exact bd (by with_unfolding_all rfl)|exact Or.inl rfl|exact Or.inl trivial|exact okL_map _ (fun _=>rfl) _|(simp only[VVlen]<;>omega)|fail) only[O1,VV0,VV1,VV2,VV3,VV4,VV5,VV6,VV7,VV8,VV9,mkFnV,vargs,slotsL,opdsA,Nat.reduceEqDiff,Nat.reduceLT,Nat.reduceAdd,Nat.reduceBEq,Int.reduceAdd,Int.reduceSub,Int.reduceLT,Int.reduceLE,Int.reduceEq,Int.reduceNeg,↓reduceIte,reduceCtorEq,scL,scD,expand,List.replicate,mmV_min,hmin,hN1,hNs])|apply gC_drawW|((first|apply gI_dec|apply gG_dec|apply gPG_dec|apply gI_var|apply gG_var|apply gPG_var)<;>intro _))
 rw[hr0]
 refine g_while (fun m fr st=>∃ (dn:List (List UInt8)) (r:List UInt8),m=r.length∧r.length≤1000000∧words c l=dn++words c r∧fr= [(0,strV r),(1,strV [c]),(2,.sc (.int .i64 0)),(3,.sc (.int .i64 N)),(9,.ref 0 0 (N+1) (N+1)),(10,.sc (.int .i64 dn.length))]∧st=⟨[(0,.row 9 1 false false (fillS dn (N+1)))],1,0⟩) l.length ?_ ⟨_,_,.refl _ _,[],l,rfl,hl,rfl,?_,rfl⟩ ?_
 ·rw[hC,callP_rounds];unfold many;omega
 ·simp
 rintro m fr st ⟨dn,r,rfl,hrl,hw,rfl,rfl⟩
 have hdl:dn.length+(words c r).length=N+1:=by rw[← hcw,hw,List.length_append]
 have hfl:=fillS_len dn (N+1) (by omega)
 have hfs:=fillS_set dn r (N+1) (by have:=List.length_pos_iff.2 (words_ne c r);omega)
 rcases byte_split c r with hf|⟨x,r',rfl,hf⟩
 ·have hwr:=words_free hf
  rw[hwr] at hw hdl
  have hd:dn.length=N:=by simpa using hdl
  have hcw':(dn++ [r]).length=N+1:=by simp[hd]
  repeat' (first|(simp (disch:=first|omega|assumption|exact bd (by with_unfolding_all rfl)|exact Or.inl rfl|exact Or.inl trivial|exact okL_map _ (fun _=>rfl) _|(simp only[VVlen]<;>omega)|fail) only[O1,VV0,VV1,VV2,VV3,VV4,VV5,VV6,VV7,VV8,VV9,mkFnV,vargs,slotsL,opdsA,Nat.reduceEqDiff,Nat.reduceLT,Nat.reduceAdd,Nat.reduceBEq,Int.reduceAdd,Int.reduceSub,Int.reduceLT,Int.reduceLE,Int.reduceEq,Int.reduceNeg,↓reduceIte,reduceCtorEq,scL,scD,expand,List.replicate,c54l0])|apply gC_drawW|((first|apply gI_dec|apply gG_dec|apply gPG_dec|apply gI_var|apply gG_var|apply gPG_var)<;>intro _))
  all_goals try (exfalso;omega)
  have hv:=vslc_hiR 1 0 0 (N+1) (N+1) .i64 ((dn.length:Int)+1) (by omega) (by omega) (by omega) (by omega)
  have hvN:((dn.length:Int)+1).toNat=N+1:=by omega
  rw[hvN] at hv
  repeat' (first|(simp (disch:=first|omega|assumption|exact bd (by with_unfolding_all rfl)|exact Or.inl rfl|exact Or.inl trivial|exact okL_map _ (fun _=>rfl) _|(simp only[VVlen]<;>omega)|fail) only[O1,VV0,VV1,VV2,VV3,VV4,VV5,VV6,VV7,VV8,VV9,mkFnV,vargs,slotsL,opdsA,Nat.reduceEqDiff,Nat.reduceLT,Nat.reduceAdd,Nat.reduceBEq,Int.reduceAdd,Int.reduceSub,Int.reduceLT,Int.reduceLE,Int.reduceEq,Int.reduceNeg,↓reduceIte,reduceCtorEq,scL,scD,expand,List.replicate,hv])|apply gC_drawW|((first|apply gI_dec|apply gG_dec|apply gPG_dec|apply gI_var|apply gG_var|apply gPG_var)<;>intro _))
  rw[show D.sc (Value.string ⟨r.toArray⟩)=sD r from rfl,hfs,fillS_all _ _ (by simp;omega),hw,hcw']
  exact .refl _ _
 ·have hi:=idxB_app r' hf
  have hwr:=words_app r' hf
  have hlen:(x++c::r').length=x.length+r'.length+1:=by simp;omega
  have hwp:=List.length_pos_iff.2 (words_ne c r')
  have hdN:dn.length<N:=by rw[hwr] at hdl;simp at hdl;omega
  have e1:=slcS_hi (x++c::r') .i64 x.length (by omega) (by rw[hlen];omega)
  have e2:=slcS_lo (x++c::r') .i64 ((x.length:Int)+1) (by omega) (by rw[hlen];omega)
  rw[Int.toNat_natCast,List.take_left] at e1
  rw[show ((x.length:Int)+1).toNat=x.length+1 by omega,show (x++c::r').drop (x.length+1)=r' by rw[← List.drop_drop];simp] at e2
  have h1i:((1:Nat):Int)=1:=rfl
  have hfx:=fillS_set dn x (N+1) (by omega)
  repeat' (first|(simp (disch:=first|omega|assumption|exact bd (by with_unfolding_all rfl)|exact Or.inl rfl|exact Or.inl trivial|exact okL_map _ (fun _=>rfl) _|(simp only[VVlen]<;>omega)|fail) only[O1,VV0,VV1,VV2,VV3,VV4,VV5,VV6,VV7,VV8,VV9,mkFnV,vargs,slotsL,opdsA,Nat.reduceEqDiff,Nat.reduceLT,Nat.reduceAdd,Nat.reduceBEq,Int.reduceAdd,Int.reduceSub,Int.reduceLT,Int.reduceLE,Int.reduceEq,Int.reduceNeg,↓reduceIte,reduceCtorEq,scL,scD,expand,List.replicate,c54l0])|apply gC_drawW|((first|apply gI_dec|apply gG_dec|apply gPG_dec|apply gI_var|apply gG_var|apply gPG_var)<;>intro _))
  refine callV_flat ((index_p w n _ c (by omega)).of hC rfl _ rfl) ?_
  rw[hi]
  repeat' (first|(simp (disch:=first|omega|assumption|exact bd (by with_unfolding_all rfl)|exact Or.inl rfl|exact Or.inl trivial|exact okL_map _ (fun _=>rfl) _|(simp only[VVlen]<;>omega)|fail) only[O1,VV0,VV1,VV2,VV3,VV4,VV5,VV6,VV7,VV8,VV9,mkFnV,vargs,slotsL,opdsA,Nat.reduceEqDiff,Nat.reduceLT,Nat.reduceAdd,Nat.reduceBEq,Int.reduceAdd,Int.reduceSub,Int.reduceLT,Int.reduceLE,Int.reduceEq,Int.reduceNeg,↓reduceIte,reduceCtorEq,scL,scD,expand,List.replicate,h1,h1i,e1,e2,Int.add_zero])|apply gC_drawW|((first|apply gI_dec|apply gG_dec|apply gPG_dec|apply gI_var|apply gG_var|apply gPG_var)<;>intro _))
  all_goals try (exfalso;omega)
  refine ⟨_,_,_,?_,.refl _ _,dn++ [x],r',rfl,by omega,?_,?_,?_⟩
  ·rw[hlen];omega
  ·rw[hw,hwr];simp
  ·simp
  ·rw[← hfx];rfl
theorem split_p (l:List UInt8) (c:UInt8) (hl:l.length≤1000000):VSpec (EN w (n+6)) 36 [strV l,strV [c]] (.ref 0 0 (words c l).length (words c l).length) ⟨[(0,.row 9 1 false false ((words c l).map sD))],1,0⟩:=by
 refine vspec_g rfl rfl (fun _ _=>rfl) (Nat.le_of_ble_eq_true rfl) (oldVals w) retOK_ref rfl fun C hC h0=>?_
 repeat' (first|(simp (disch:=first|omega|assumption|exact bd (by with_unfolding_all rfl)|exact Or.inl rfl|exact Or.inl trivial|exact okL_map _ (fun _=>rfl) _|(simp only[VVlen]<;>omega)|fail) only[O1,VV0,VV1,VV2,VV3,VV4,VV5,VV6,VV7,VV8,VV9,mkFnV,vargs,slotsL,opdsA,Nat.reduceEqDiff,Nat.reduceLT,Nat.reduceAdd,Nat.reduceBEq,Int.reduceAdd,Int.reduceSub,Int.reduceLT,Int.reduceLE,Int.reduceEq,Int.reduceNeg,↓reduceIte,reduceCtorEq,scL,scD,expand,List.replicate,c36])|apply gC_drawW|((first|apply gI_dec|apply gG_dec|apply gPG_dec|apply gI_var|apply gG_var|apply gPG_var)<;>intro _))
 refine callV_of (by rw[hC];exact gsplit_p w n l c hl) rfl rfl rfl ?_
 repeat' (first|(simp (disch:=first|omega|assumption|exact bd (by with_unfolding_all rfl)|exact Or.inl rfl|exact Or.inl trivial|exact okL_map _ (fun _=>rfl) _|(simp only[VVlen]<;>omega)|fail) only[O1,VV0,VV1,VV2,VV3,VV4,VV5,VV6,VV7,VV8,VV9,mkFnV,vargs,slotsL,opdsA,Nat.reduceEqDiff,Nat.reduceLT,Nat.reduceAdd,Nat.reduceBEq,Int.reduceAdd,Int.reduceSub,Int.reduceLT,Int.reduceLE,Int.reduceEq,Int.reduceNeg,↓reduceIte,reduceCtorEq,scL,scD,expand,List.replicate,vsh,vshL,shH,shO,fzSL,fzS])|apply gC_drawW|((first|apply gI_dec|apply gG_dec|apply gPG_dec|apply gI_var|apply gG_var|apply gPG_var)<;>intro _))
 exact weak_to [(0,0)] 1 h0 rfl rfl rfl rfl
theorem hasSuf_p (l:List UInt8) (c:UInt8) (hl:l.length≤1000000):VSpec (EN w (n+1)) 69 [strV l,strV [c]] (.sc (.bool (decide (l.getLast? =some c)))) ⟨[],0,0⟩:=by
 refine vspec_flat rfl rfl (fun _ _=>rfl) (Nat.le_of_ble_eq_true rfl) (oldVals w) rfl fun C hC h0=>?_
 have h1:(ByteArray.mk [c].toArray).size=1:=rfl
 have h1i:((1:Nat):Int)=1:=rfl
 have hsz:=mk_size l
 by_cases hn:l= []
 ·subst hn
  have h2:(ByteArray.mk ([]:List UInt8).toArray).size=0:=rfl
  repeat' (first|(simp (disch:=first|omega|assumption|exact bd (by with_unfolding_all rfl)|exact Or.inl rfl|exact Or.inl trivial|exact okL_map _ (fun _=>rfl) _|(simp only[VVlen]<;>omega)|fail) only[O1,VV0,VV1,VV2,VV3,VV4,VV5,VV6,VV7,VV8,VV9,mkFnV,vargs,slotsL,opdsA,Nat.reduceEqDiff,Nat.reduceLT,Nat.reduceAdd,Nat.reduceBEq,Int.reduceAdd,Int.reduceSub,Int.reduceLT,Int.reduceLE,Int.reduceEq,Int.reduceNeg,↓reduceIte,reduceCtorEq,scL,scD,expand,List.replicate,c69,h1,h1i,h2])|apply gC_drawW|((first|apply gI_dec|apply gG_dec|apply gPG_dec|apply gI_var|apply gG_var|apply gPG_var)<;>intro _))
  all_goals try (exfalso;omega)
  exact weak_flat rfl h0 rfl
 ·obtain ⟨S,b,rfl⟩:∃ S p,l=S++ [p]:=⟨l.dropLast,l.getLast hn,(List.dropLast_concat_getLast hn).symm⟩
  have hsl:(S++ [b]).length=S.length+1:=by simp
  have e2:=slcS_lo (S++ [b]) .i64 (S.length:Int) (by omega) (by rw[hsl];omega)
  rw[Int.toNat_natCast,List.drop_left] at e2
  have e3:(((ByteArray.mk (S++ [b]).toArray).size:Nat):Int) - 1=(S.length:Int):=by rw[hsz,hsl];omega
  have e4:((S++ [b]).getLast? =some c)=([b]= [c]):=by simp
  rw[show decide ((S++ [b]).getLast? =some c)=decide ([b]= [c]) by congr 1]
  repeat' (first|(simp (disch:=first|omega|assumption|exact bd (by with_unfolding_all rfl)|exact Or.inl rfl|exact Or.inl trivial|exact okL_map _ (fun _=>rfl) _|(simp only[VVlen]<;>omega)|fail) only[O1,VV0,VV1,VV2,VV3,VV4,VV5,VV6,VV7,VV8,VV9,mkFnV,vargs,slotsL,opdsA,Nat.reduceEqDiff,Nat.reduceLT,Nat.reduceAdd,Nat.reduceBEq,Int.reduceAdd,Int.reduceSub,Int.reduceLT,Int.reduceLE,Int.reduceEq,Int.reduceNeg,↓reduceIte,reduceCtorEq,scL,scD,expand,List.replicate,c69,h1,h1i,e3,e2,mk_inj])|apply gC_drawW|((first|apply gI_dec|apply gG_dec|apply gPG_dec|apply gI_var|apply gG_var|apply gPG_var)<;>intro _))
  all_goals try (exfalso;omega)
  exact weak_flat rfl h0 rfl
end
end Go.Proofs.YteibgbbfcjgjiaaDoor
namespace Go.Proofs.YteibgbbfcjgjiaaDoor
open Go Go.Itp
set_option maxRecDepth 100000
set_option maxHeartbeats 2000000
set_option linter.unusedSimpArgs false
set_option linter.unusedVariables false
theorem strD_push (l:List UInt8) (c:UInt8):strD ⟨(l++ [c]).toArray⟩=strD ⟨l.toArray⟩++ [.sc (.int .u8 c.toNat)]:=by simp[strD,Itp.bD]
section
variable (w:World) (n:Nat)
theorem writeByte_w {C:Ctx} {st:VSt} {Q:V→VSt→Prop} (hC:C.E=EN w (n+3)) (b r:Nat) (p:V) (l:List UInt8) (c:Nat) (hc:c<256) (hb:aget st.own b=some (.box 61 1 [p,.gr 2 r l.length])) (hr:aget st.own r=some (.gro 5 1 false (strD ⟨l.toArray⟩))) (hp:selfP b p) (hro:st.ro≤b) (hro2:st.ro≤r) (hrb:r ≠ b) (hlt:b ≠ st.next) (hlt2:r ≠ st.next) (hlt3:b ≠ st.next+1)
  (hsz:l.length≤1000000000) (hq:Q (.sc .nilIface) ⟨(st.next+1,.gro 5 1 false (strD ⟨(l++ [UInt8.ofNat c]).toArray⟩))::(st.next,.row 5 1 false false [.sc (.int .u8 c)])::aset (adel r st.own) b (.box 61 1 [.ptr b 0,.gr 2 (st.next+1) (l.length+1)]),st.next+2,st.ro⟩):
  CallV C 31 [.ptr b 0,.sc (.int .u8 c)] st Q:=by
 refine callV_w hC rfl rfl (fun _ _=>rfl) (Nat.le_of_ble_eq_true rfl) hq fun C' hC' hn=>?_
 obtain ⟨H,nx,ro⟩:=st
 have h1:(strD ⟨l.toArray⟩).length=l.length:=by rw[strD_len];exact mk_size l
 have hpush:=strD_push l (UInt8.ofNat c)
 have hcc:(UInt8.ofNat c).toNat=c:=by rw[UInt8.toNat_ofNat'];omega
 rw[hcc] at hpush
 have a1:aget (aset H b (.box 61 1 [.ptr b 0,.gr 2 r l.length])) b=some (.box 61 1 [.ptr b 0,.gr 2 r l.length]):=aget_aset_eq hb
 have a2:aget (aset H b (.box 61 1 [.ptr b 0,.gr 2 r l.length])) r=some (.gro 5 1 false (strD ⟨l.toArray⟩)):=by rw[aget_aset _ _ _ _ _ hb,if_neg hrb];exact hr
 have hbr:¬ b=r:=fun e=>hrb e.symm
 repeat' (first|(simp (disch:=first|omega|assumption|exact bd (by with_unfolding_all rfl)|exact Or.inl rfl|exact Or.inl trivial|exact okL_map _ (fun _=>rfl) _|(simp only[VVlen]<;>omega)|fail) only[O1,VV0,VV1,VV2,VV3,VV4,VV5,VV6,VV7,VV8,VV9,mkFnV,vargs,slotsL,opdsA,Nat.reduceEqDiff,Nat.reduceLT,Nat.reduceAdd,Nat.reduceBEq,Int.reduceAdd,Int.reduceSub,Int.reduceLT,Int.reduceLE,Int.reduceEq,Int.reduceNeg,↓reduceIte,reduceCtorEq,scL,scD,expand,List.replicate,c31])|apply gC_drawW|((first|apply gI_dec|apply gG_dec|apply gPG_dec|apply gI_var|apply gG_var|apply gPG_var)<;>intro _))
 refine copyCheck_w w n hC' b 1 p _ hb hp hro ?_
 have a3:aget (adel r (aset H b (.box 61 1 [.ptr b 0,.gr 2 r l.length]))) b=some (.box 61 1 [.ptr b 0,.gr 2 r l.length]):=by rw[aget_adel,if_neg hbr];exact a1
 have hlt':¬ nx=b:=fun e=>hlt e.symm
 have hlt2':¬ nx=r:=fun e=>hlt2 e.symm
 have hlt3':¬ nx+1=b:=fun e=>hlt3 e.symm
 repeat' (first|(simp (disch:=first|omega|assumption|exact bd (by with_unfolding_all rfl)|exact Or.inl rfl|exact Or.inl trivial|exact okL_map _ (fun _=>rfl) _|(simp only[VVlen]<;>omega)|fail) only[O1,VV0,VV1,VV2,VV3,VV4,VV5,VV6,VV7,VV8,VV9,mkFnV,vargs,slotsL,opdsA,Nat.reduceEqDiff,Nat.reduceLT,Nat.reduceAdd,Nat.reduceBEq,Int.reduceAdd,Int.reduceSub,Int.reduceLT,Int.reduceLE,Int.reduceEq,Int.reduceNeg,↓reduceIte,reduceCtorEq,scL,scD,expand,List.replicate,a1,a2,a3,hbr,hrb,hlt,hlt2,hlt3,hlt',hlt2',hlt3',frozA_none])|apply gC_drawW|((first|apply gI_dec|apply gG_dec|apply gPG_dec|apply gI_var|apply gG_var|apply gPG_var)<;>intro _))
 rw[adel_aset _ _ _ _ hrb,aset_aset,← hpush]
 exact .refl _ _
end
end Go.Proofs.YteibgbbfcjgjiaaDoor
namespace Go.Proofs.YteibgbbfcjgjiaaDoor
open Go Go.Itp
set_option maxRecDepth 100000
set_option maxHeartbeats 2000000
set_option linter.unusedSimpArgs false
set_option linter.unusedVariables false
def tlT (rs:List (List UInt8)):List UInt8:=(rs.map (10::·)).flatten
theorem fed_tl:∀ (h:List UInt8) (rs:List (List UInt8)),fed (h::rs)=h++tlT rs++ [10]
 |h,[]=>by simp[fed,tlT]
 |h,r::rs=>by
  have:=fed_tl r rs
  simp only[fed,tlT,List.map_cons,List.flatten_cons,List.append_assoc,List.cons_append,List.nil_append] at this ⊢
  rw[this]
theorem tlT_snoc (rs:List (List UInt8)) (r:List UInt8):tlT (rs++ [r])=tlT rs++10::r:=by simp[tlT]
theorem spT_snoc (l:List (List UInt8)) (x:List UInt8):spT (l++ [x])=spT l++32::x:=by simp[spT]
theorem rowsT_take:∀ (N:List (List UInt8)) (M:List (List Int)) (k:Nat),k<N.length→k<M.length→rowsT (N.take (k+1)) (M.take (k+1))=rowsT (N.take k) (M.take k)++ [rowT N[k]! M[k]!]
 | [],_,k,h,_=>by simp at h
 |_::_,[],k,_,h=>by simp at h
 |x::N,l::M,0,_,_=>by simp[rowsT]
 |x::N,l::M,k+1,h1,h2=>by
  have:=rowsT_take N M k (by simpa using h1) (by simpa using h2)
  simp only[List.take_succ_cons,rowsT,List.cons_append]
  rw[this]
  rfl
theorem sp_len (m:Nat):∀ l:List (List UInt8),(∀ x ∈ l,x.length≤m)→(spT l).length≤l.length*(m+1)
 | [],_=>by simp[spT]
 |x::l,h=>by
  have h1:=sp_len m l fun y hy=>h y (List.mem_cons_of_mem _ hy)
  have h2:=h x (by simp)
  have e:spT (x::l)=32::x++spT l:=by simp[spT]
  rw[e,List.length_append,List.length_cons,List.length_cons,Nat.succ_mul]
  omega
theorem word_len {s:List UInt8} (h:wordS s=true):s.length≤40:=(of_decide_eq_true h).2.1
theorem itoas_len {l:List Int} (h:∀ v ∈ l,0≤v∧v≤1000000) (k:Nat):(spT ((l.take k).map Lib.itoa)).length≤l.length*22:=by
 have h1:=sp_len 21 ((l.take k).map Lib.itoa) fun y hy=>by
  obtain ⟨v,hv,rfl⟩:=List.mem_map.1 hy
  have:=h v (List.mem_of_mem_take hv)
  exact Lib.itoa_length_le v (by omega) (by omega)
 rw[List.length_map,List.length_take] at h1
 have:min k l.length*22≤l.length*22:=Nat.mul_le_mul_right _ (by omega)
 omega
theorem heads_len {S:List (List UInt8)} (h:∀ x ∈ S,wordS x=true) (k:Nat):(sizeL++spT (S.take k)).length≤4+S.length*41:=by
 have h1:=sp_len 40 (S.take k) fun y hy=>word_len (h y (List.mem_of_mem_take hy))
 rw[List.length_take] at h1
 have:min k S.length*41≤S.length*41:=Nat.mul_le_mul_right _ (by omega)
 rw[List.length_append]
 have e:sizeL.length=4:=rfl
 omega
theorem row_len {S:Nat} {x:List UInt8} {l:List Int} (hx:wordS x=true) (hl:∀ v ∈ l,0≤v∧v≤1000000) (hs:l.length=S) (h20:S≤20):(rowT x l).length≤480:=by
 have h1:=itoas_len hl l.length
 rw[List.take_length] at h1
 have h2:=word_len hx
 have:l.length*22≤20*22:=Nat.mul_le_mul_right _ (by omega)
 unfold rowT
 rw[List.length_append]
 omega
theorem tl_len {S N:List (List UInt8)} {M:List (List Int)} (g:Good S N M):∀ k,k≤N.length→(tlT (rowsT (N.take k) (M.take k))).length≤k*500
 |0,_=>by simp[rowsT,tlT]
 |k+1,hk=>by
  have ih:=tl_len g k (by omega)
  have hM:k<M.length:=by rw[g.m];omega
  have hl:M[k]! ∈ M:=by rw[getElem!_pos M k hM];exact List.getElem_mem hM
  have hx:N[k]! ∈ N:=by rw[getElem!_pos N k (by omega)];exact List.getElem_mem (by omega)
  have:=row_len (g.wn _ hx) (g.r _ hl) (g.rl _ hl) g.s
  rw[rowsT_take N M k (by omega) hM,tlT_snoc,List.length_append,List.length_cons,Nat.succ_mul]
  omega
section
variable (w:World) (n:Nat)
end
end Go.Proofs.YteibgbbfcjgjiaaDoor
namespace Go.Proofs.YteibgbbfcjgjiaaDoor
open Go Go.Itp
set_option maxRecDepth 100000
set_option maxHeartbeats 2000000
set_option linter.unusedSimpArgs false
set_option linter.unusedVariables false
theorem good_mod {S N:List (List UInt8)} {M:List (List Int)} (g:Good S N M):Mod S N M:=by
 refine ⟨by have:=g.s;omega,by have:=g.n;omega,by have:=g.n;have:=g.m;omega,fun j hj=>?_,fun j hj=>?_,fun j hj=>?_⟩
 ·have:=word_len (g.ws S[j]! (by rw[getElem!_pos S j hj];exact List.getElem_mem hj));omega
 ·have:=word_len (g.wn N[j]! (by rw[getElem!_pos N j hj];exact List.getElem_mem hj));omega
 ·have h1:=g.rl M[j]! (by rw[getElem!_pos M j hj];exact List.getElem_mem hj)
  have:=g.s
  omega
section
variable (w:World) (n:Nat)
theorem textE_p (s t u r:Nat) (S N:List (List UInt8)) (M:List (List Int)) (hm:Mod S N M) (hne:checkS S N M ≠ 0):VSpec (EN w (n+5)) 10 [tableV s t u r S N M] (.tup [strV [],.sc (.int .i64 (checkS S N M))]) ⟨[],0,0⟩:=by
 refine vspec_flat rfl rfl (fun _ _=>rfl) (Nat.le_of_ble_eq_true rfl) (oldVals w) rfl fun C hC h0=>?_
 have hc:=check_p w (n+1) s t u r S N M hm
 generalize checkS S N M=e at*
 repeat' (first|(simp (disch:=first|omega|assumption|exact bd (by with_unfolding_all rfl)|exact Or.inl rfl|exact Or.inl trivial|exact okL_map _ (fun _=>rfl) _|(simp only[VVlen]<;>omega)|fail) only[O1,VV0,VV1,VV2,VV3,VV4,VV5,VV6,VV7,VV8,VV9,mkFnV,vargs,slotsL,opdsA,Nat.reduceEqDiff,Nat.reduceLT,Nat.reduceAdd,Nat.reduceBEq,Int.reduceAdd,Int.reduceSub,Int.reduceLT,Int.reduceLE,Int.reduceEq,Int.reduceNeg,↓reduceIte,reduceCtorEq,scL,scD,expand,List.replicate,c10])|apply gC_drawW|((first|apply gI_dec|apply gG_dec|apply gPG_dec|apply gI_var|apply gG_var|apply gPG_var)<;>intro _))
 refine callV_flat (by rw[hC];exact hc.flat rfl rfl) ?_
 repeat' (first|(simp (disch:=first|omega|assumption|exact bd (by with_unfolding_all rfl)|exact Or.inl rfl|exact Or.inl trivial|exact okL_map _ (fun _=>rfl) _|(simp only[VVlen]<;>omega)|fail) only[O1,VV0,VV1,VV2,VV3,VV4,VV5,VV6,VV7,VV8,VV9,mkFnV,vargs,slotsL,opdsA,Nat.reduceEqDiff,Nat.reduceLT,Nat.reduceAdd,Nat.reduceBEq,Int.reduceAdd,Int.reduceSub,Int.reduceLT,Int.reduceLE,Int.reduceEq,Int.reduceNeg,↓reduceIte,reduceCtorEq,scL,scD,expand,List.replicate])|apply gC_drawW|((first|apply gI_dec|apply gG_dec|apply gPG_dec|apply gI_var|apply gG_var|apply gPG_var)<;>intro _))
 exact weak_flat rfl h0 rfl
def bigF (t:Tb):List UInt8 × Int:=if 8000<(textT t).length then ([],4) else (textT t,0)
end
end Go.Proofs.YteibgbbfcjgjiaaDoor
namespace Go.Proofs.YteibgbbfcjgjiaaDoor
open Go Go.Itp
set_option maxRecDepth 100000
set_option maxHeartbeats 2000000
set_option linter.unusedSimpArgs false
set_option linter.unusedVariables false
theorem fed_snoc (ls:List (List UInt8)) (x:List UInt8):fed (ls++ [x])=fed ls++(x++ [10]):=by simp[fed]
theorem join_head (S:List (List UInt8)):Lib.join (sizeL::S) [32]=headT S:=by rw[join_one,← sp_join];rfl
theorem fed_len (h:List UInt8) (rs:List (List UInt8)):(fed (h::rs)).length=h.length+(tlT rs).length+1:=by rw[fed_tl];simp;omega
section
variable (w:World) (n:Nat)
theorem wStr_w {C:Ctx} {st:VSt} {Q:V→VSt→Prop} (hC:C.E=EN w (n+3)) (b r:Nat) (p:V) (l x:List UInt8) (hb:aget st.own b=some (.box 61 1 [p,.gr 2 r l.length])) (hr:aget st.own r=some (.gro 5 1 false (strD ⟨l.toArray⟩))) (hp:selfP b p) (hro:st.ro≤b) (hro2:st.ro≤r) (hrb:r ≠ b) (hlt:b ≠ st.next)
  (hsz:l.length+x.length≤1099511627776) (hq:Q (.tup [.sc (.int .i64 x.length),.sc .nilIface]) ⟨(st.next,.gro 5 1 false (strD ⟨(l++x).toArray⟩))::aset (adel r st.own) b (.box 61 1 [.ptr b 0,.gr 2 st.next (l.length+x.length)]),st.next+1,st.ro⟩):
  CallV C 29 [.ptr b 0,strV x] st Q:=by
 have h1:=mk_size l
 have h2:=mk_size x
 have h3:(ByteArray.mk l.toArray)++(ByteArray.mk x.toArray)=⟨(l++x).toArray⟩:=by
  apply ByteArray.ext;apply Array.ext'
  rw[ByteArray.data_append,Array.toList_append]
 refine writeString_w w n hC b r p ⟨l.toArray⟩ ⟨x.toArray⟩ (by rw[h1];exact hb) hr hp hro hro2 hrb hlt (by rw[h1,h2];exact hsz) ?_
 rw[h1,h2,h3]
 exact hq
theorem blen_p (st:VSt) (b e r m:Nat) (p:V) (hb:aget st.own b=some (.box 61 e [p,.gr 2 r m])) (hm:m≤1000000):VSpecO (EN w (n+1)) 33 st [.ptr b 0] (.sc (.int .i64 m)):=by
 refine vspecO_g rfl rfl (fun _ _=>rfl) (Nat.le_of_ble_eq_true rfl) rfl fun C hC h0=>⟨⟨st.own,st.next,st.next⟩,?_⟩
 repeat' (first|(simp (disch:=first|omega|assumption|exact bd (by with_unfolding_all rfl)|exact Or.inl rfl|exact Or.inl trivial|exact okL_map _ (fun _=>rfl) _|(simp only[VVlen]<;>omega)|fail) only[O1,VV0,VV1,VV2,VV3,VV4,VV5,VV6,VV7,VV8,VV9,mkFnV,vargs,slotsL,opdsA,Nat.reduceEqDiff,Nat.reduceLT,Nat.reduceAdd,Nat.reduceBEq,Int.reduceAdd,Int.reduceSub,Int.reduceLT,Int.reduceLE,Int.reduceEq,Int.reduceNeg,↓reduceIte,reduceCtorEq,scL,scD,expand,List.replicate,c33,hb])|apply gC_drawW|((first|apply gI_dec|apply gG_dec|apply gPG_dec|apply gI_var|apply gG_var|apply gPG_var)<;>intro _))
 exact .refl _ _
theorem text_p (s t u r:Nat) (hs:s ≠ 1) (S N:List (List UInt8)) (M:List (List Int)) (hc0:checkS S N M=0):VSpec (EN w (n+5)) 10 [tableV s t u r S N M] (.tup [strV (bigF (S,N,M)).1,.sc (.int .i64 (bigF (S,N,M)).2)]) ⟨[],0,0⟩:=by
 refine vspec_flat rfl rfl (fun _ _=>rfl) (Nat.le_of_ble_eq_true rfl) (oldVals w) rfl fun C hC h0=>?_
 have g:=check_good hc0
 have hm:=good_mod g
 have hc:=check_p w (n+1) s t u r S N M hm
 have hrn:C.E.rounds=many:=by rw[hC,callP_rounds]
 obtain ⟨g1,g2,g3,g4,g5,g6,g7,g8⟩:=g
 have g:Good S N M:=⟨g1,g2,g3,g4,g5,g6,g7,g8⟩
 rw[hc0] at hc
 have hSm:(S.map sD).length=S.length:=by rw[List.length_map]
 repeat' (first|(simp (disch:=first|omega|assumption|exact bd (by with_unfolding_all rfl)|exact Or.inl rfl|exact Or.inl trivial|exact okL_map _ (fun _=>rfl) _|(simp only[VVlen]<;>omega)|fail) only[O1,VV0,VV1,VV2,VV3,VV4,VV5,VV6,VV7,VV8,VV9,mkFnV,vargs,slotsL,opdsA,Nat.reduceEqDiff,Nat.reduceLT,Nat.reduceAdd,Nat.reduceBEq,Int.reduceAdd,Int.reduceSub,Int.reduceLT,Int.reduceLE,Int.reduceEq,Int.reduceNeg,↓reduceIte,reduceCtorEq,scL,scD,expand,List.replicate,c10])|apply gC_drawW|((first|apply gI_dec|apply gG_dec|apply gPG_dec|apply gI_var|apply gG_var|apply gPG_var)<;>intro _))
 refine callV_flat (by rw[hC];exact hc.flat rfl rfl) ?_
 repeat' (first|(simp (disch:=first|omega|assumption|exact bd (by with_unfolding_all rfl)|exact Or.inl rfl|exact Or.inl trivial|exact okL_map _ (fun _=>rfl) _|(simp only[VVlen]<;>omega)|fail) only[O1,VV0,VV1,VV2,VV3,VV4,VV5,VV6,VV7,VV8,VV9,mkFnV,vargs,slotsL,opdsA,Nat.reduceEqDiff,Nat.reduceLT,Nat.reduceAdd,Nat.reduceBEq,Int.reduceAdd,Int.reduceSub,Int.reduceLT,Int.reduceLE,Int.reduceEq,Int.reduceNeg,↓reduceIte,reduceCtorEq,scL,scD,expand,List.replicate,sD_dv])|apply gC_drawW|((first|apply gI_dec|apply gG_dec|apply gPG_dec|apply gI_var|apply gG_var|apply gPG_var)<;>intro _))
 have hhl:=heads_len g4 S.length
 rw[List.take_length] at hhl
 have hhl:(headT S).length≤4+S.length*41:=hhl
 have hj:∀ (st:VSt) (xs:List V),snapL st.own xs=some [.sl 2 (sizeL::S).length ((sizeL::S).map sD),.sc (.string ⟨#[32]⟩)]→VSpecO C.E 30 st xs (strV (headT S)):=fun st xs h1=>by
  rw[hC,← join_head]
  exact (VSpec.ofO (join_s w (n+3) ⟨[],0,0⟩ 2 (by decide) (sizeL::S) [32] (by simp;omega) (by rw[join_head];omega))).flat rfl h1
 have hbf:bigF (S,N,M)=if 8000<(fed (headT S::rowsT N M)).length then ([],4) else (fed (headT S::rowsT N M),0):=rfl
 rw[hbf]
 refine callV_flat (hj _ _ ?hs) ?_
 case hs=>
  show (snapV _ (.gr 2 3 (1+S.length))).bind _=_
  rw[snap_grD (o:=3) (t:=9) (z:=false) (l:=(sizeL::S).map sD) rfl (by simp;omega),Nat.add_comm]
  rfl
 generalize headT S=HD at*
 refine callV_weak (fun C' hn'=>weak_nilCell (C:=C') (fr:= []) (l:= [.sc (.pointer none),.sc (.slice none 0 0)]) 1 61 1 1 5 1 rfl rfl (Nat.ne_of_beq_eq_false rfl)) ?_
 refine wStr_w w (n+1) hC 1 4 (.sc (.pointer none)) [] HD rfl rfl (.inl rfl) (Nat.zero_le _) (Nat.zero_le _) (by decide) (Nat.ne_of_beq_eq_false rfl) (by simp;omega) ?_
 repeat' (first|(simp (disch:=first|omega|assumption|exact bd (by with_unfolding_all rfl)|exact Or.inl rfl|exact Or.inl trivial|exact okL_map _ (fun _=>rfl) _|(simp only[VVlen]<;>omega)|fail) only[O1,VV0,VV1,VV2,VV3,VV4,VV5,VV6,VV7,VV8,VV9,mkFnV,vargs,slotsL,opdsA,Nat.reduceEqDiff,Nat.reduceLT,Nat.reduceAdd,Nat.reduceBEq,Int.reduceAdd,Int.reduceSub,Int.reduceLT,Int.reduceLE,Int.reduceEq,Int.reduceNeg,↓reduceIte,reduceCtorEq,scL,scD,expand,List.replicate])|apply gC_drawW|((first|apply gI_dec|apply gG_dec|apply gPG_dec|apply gI_var|apply gG_var|apply gPG_var)<;>intro _))
 have nb:∀ a b:Nat,Nat.beq a b=false→a ≠ b:=fun a b=>Nat.ne_of_beq_eq_false
 refine writeByte_w w (n+1) hC 1 5 (.ptr 1 0) HD 10 (by decide) rfl rfl (.inr rfl) (Nat.zero_le _) (Nat.zero_le _) (by decide) (nb _ _ rfl) (nb _ _ rfl) (nb _ _ rfl) (by omega) ?_
 repeat' (first|(simp (disch:=first|omega|assumption|exact bd (by with_unfolding_all rfl)|exact Or.inl rfl|exact Or.inl trivial|exact okL_map _ (fun _=>rfl) _|(simp only[VVlen]<;>omega)|fail) only[O1,VV0,VV1,VV2,VV3,VV4,VV5,VV6,VV7,VV8,VV9,mkFnV,vargs,slotsL,opdsA,Nat.reduceEqDiff,Nat.reduceLT,Nat.reduceAdd,Nat.reduceBEq,Int.reduceAdd,Int.reduceSub,Int.reduceLT,Int.reduceLE,Int.reduceEq,Int.reduceNeg,↓reduceIte,reduceCtorEq,scL,scD,expand,List.replicate])|apply gC_drawW|((first|apply gI_dec|apply gG_dec|apply gPG_dec|apply gI_var|apply gG_var|apply gPG_var)<;>intro _))
 have hf0:fed (HD::rowsT (N.take 0) (M.take 0))=HD++ [UInt8.ofNat 10]:=by simp[rowsT,fed]
 refine g_while (fun m fr st=>∃ (k:Nat) (p:V),m=M.length - k∧k≤M.length∧selfP 1 p∧fr= [(1,.ptr 0 0),(5,.ptr 1 0),(23,rowsV u r M),(24,.sc (.int .i64 M.length)),(25,.sc (.int .i64 k))]∧
  st=⟨[(2,.gro 5 1 false (strD ⟨(fed (HD::rowsT (N.take k) (M.take k))).toArray⟩)),(1,.box 61 1 [p,.gr 2 2 (fed (HD::rowsT (N.take k) (M.take k))).length]),(0,tabO s t u r S N M)],3,0⟩) M.length ?_ ⟨_,_,weak_to [(7,2),(1,1),(0,0)] 3 h0 rfl rfl rfl rfl,0,.ptr 1 0,by omega,Nat.zero_le _,.inr rfl,rfl,by rw[hf0,List.length_append];rfl⟩ ?_
 ·rw[hrn];unfold many;omega
 rintro m fr st ⟨k,p,rfl,hk,hp,rfl,rfl⟩
 have htl:=tl_len g k (by omega)
 have hk500:k*500≤30*500:=Nat.mul_le_mul_right _ (by omega)
 have hfl:=fed_len HD (rowsT (N.take k) (M.take k))
 have hMm:(M.map (rowI r)).length=M.length:=by rw[List.length_map]
 by_cases hlt:k<M.length
 case neg=>
  have:k=M.length:=by omega
  subst this
  rw[List.take_length,g3,List.take_length] at hfl htl ⊢
  generalize fed (HD::rowsT N M)=F at*
  have hFz:=mk_size F
  have hbl:=fun (st:VSt) (h:aget st.own 1=some (.box 61 1 [p,.gr 2 2 F.length]))=>blen_p w (n+3) st 1 1 2 F.length p h (by omega)
  by_cases hb:8000<F.length
  ·rw[if_pos hb]
   repeat' (first|(simp (disch:=first|omega|assumption|exact bd (by with_unfolding_all rfl)|exact Or.inl rfl|exact Or.inl trivial|exact okL_map _ (fun _=>rfl) _|(simp only[VVlen]<;>omega)|fail) only[O1,VV0,VV1,VV2,VV3,VV4,VV5,VV6,VV7,VV8,VV9,mkFnV,vargs,slotsL,opdsA,Nat.reduceEqDiff,Nat.reduceLT,Nat.reduceAdd,Nat.reduceBEq,Int.reduceAdd,Int.reduceSub,Int.reduceLT,Int.reduceLE,Int.reduceEq,Int.reduceNeg,↓reduceIte,reduceCtorEq,scL,scD,expand,List.replicate,c10l1])|apply gC_drawW|((first|apply gI_dec|apply gG_dec|apply gPG_dec|apply gI_var|apply gG_var|apply gPG_var)<;>intro _))
   refine callV_flat (by rw[hC];refine hbl _ ?_;rfl) ?_
   repeat' (first|(simp (disch:=first|omega|assumption|exact bd (by with_unfolding_all rfl)|exact Or.inl rfl|exact Or.inl trivial|exact okL_map _ (fun _=>rfl) _|(simp only[VVlen]<;>omega)|fail) only[O1,VV0,VV1,VV2,VV3,VV4,VV5,VV6,VV7,VV8,VV9,mkFnV,vargs,slotsL,opdsA,Nat.reduceEqDiff,Nat.reduceLT,Nat.reduceAdd,Nat.reduceBEq,Int.reduceAdd,Int.reduceSub,Int.reduceLT,Int.reduceLE,Int.reduceEq,Int.reduceNeg,↓reduceIte,reduceCtorEq,scL,scD,expand,List.replicate])|apply gC_drawW|((first|apply gI_dec|apply gG_dec|apply gPG_dec|apply gI_var|apply gG_var|apply gPG_var)<;>intro _))
   all_goals try (exfalso;omega)
   exact weak_flat rfl h0 rfl
  ·rw[if_neg hb]
   repeat' (first|(simp (disch:=first|omega|assumption|exact bd (by with_unfolding_all rfl)|exact Or.inl rfl|exact Or.inl trivial|exact okL_map _ (fun _=>rfl) _|(simp only[VVlen]<;>omega)|fail) only[O1,VV0,VV1,VV2,VV3,VV4,VV5,VV6,VV7,VV8,VV9,mkFnV,vargs,slotsL,opdsA,Nat.reduceEqDiff,Nat.reduceLT,Nat.reduceAdd,Nat.reduceBEq,Int.reduceAdd,Int.reduceSub,Int.reduceLT,Int.reduceLE,Int.reduceEq,Int.reduceNeg,↓reduceIte,reduceCtorEq,scL,scD,expand,List.replicate,c10l1])|apply gC_drawW|((first|apply gI_dec|apply gG_dec|apply gPG_dec|apply gI_var|apply gG_var|apply gPG_var)<;>intro _))
   refine callV_flat (by rw[hC];refine hbl _ ?_;rfl) ?_
   repeat' (first|(simp (disch:=first|omega|assumption|exact bd (by with_unfolding_all rfl)|exact Or.inl rfl|exact Or.inl trivial|exact okL_map _ (fun _=>rfl) _|(simp only[VVlen]<;>omega)|fail) only[O1,VV0,VV1,VV2,VV3,VV4,VV5,VV6,VV7,VV8,VV9,mkFnV,vargs,slotsL,opdsA,Nat.reduceEqDiff,Nat.reduceLT,Nat.reduceAdd,Nat.reduceBEq,Int.reduceAdd,Int.reduceSub,Int.reduceLT,Int.reduceLE,Int.reduceEq,Int.reduceNeg,↓reduceIte,reduceCtorEq,scL,scD,expand,List.replicate])|apply gC_drawW|((first|apply gI_dec|apply gG_dec|apply gPG_dec|apply gI_var|apply gG_var|apply gPG_var)<;>intro _))
   all_goals try (exfalso;omega)
   refine string_w w (n+3) hC 1 2 p ⟨F.toArray⟩ (by rw[hFz];rfl) rfl (Nat.zero_le _) (Nat.zero_le _) (by omega) fun st' hst=>?_
   repeat' (first|(simp (disch:=first|omega|assumption|exact bd (by with_unfolding_all rfl)|exact Or.inl rfl|exact Or.inl trivial|exact okL_map _ (fun _=>rfl) _|(simp only[VVlen]<;>omega)|fail) only[O1,VV0,VV1,VV2,VV3,VV4,VV5,VV6,VV7,VV8,VV9,mkFnV,vargs,slotsL,opdsA,Nat.reduceEqDiff,Nat.reduceLT,Nat.reduceAdd,Nat.reduceBEq,Int.reduceAdd,Int.reduceSub,Int.reduceLT,Int.reduceLE,Int.reduceEq,Int.reduceNeg,↓reduceIte,reduceCtorEq,scL,scD,expand,List.replicate])|apply gC_drawW|((first|apply gI_dec|apply gG_dec|apply gPG_dec|apply gI_var|apply gG_var|apply gPG_var)<;>intro _))
   exact weak_flat rfl h0 hst
 have hkN:k<N.length:=by omega
 have hxN:N[k]! ∈ N:=by rw[getElem!_pos N k hkN];exact List.getElem_mem hkN
 have hxM:M[k]! ∈ M:=by rw[getElem!_pos M k hlt];exact List.getElem_mem hlt
 have hwl:=word_len (g5 _ hxN)
 have hrl:=g7 _ hxM
 have hrv:=g6 _ hxM
 have hrt:=rowsT_take N M k hkN hlt
 have hsn:fed (HD::rowsT (N.take (k+1)) (M.take (k+1)))=fed (HD::rowsT (N.take k) (M.take k))++(rowT N[k]! M[k]! ++ [10]):=by rw[hrt,← List.cons_append,fed_snoc]
 generalize hF:fed (HD::rowsT (N.take k) (M.take k))=F at*
 have hNm:(N.map sD).length=N.length:=by rw[List.length_map]
 generalize hX:N[k]! =X at*
 generalize hL:M[k]! =L at*
 repeat' (first|(simp (disch:=first|omega|assumption|exact bd (by with_unfolding_all rfl)|exact Or.inl rfl|exact Or.inl trivial|exact okL_map _ (fun _=>rfl) _|(simp only[VVlen]<;>omega)|fail) only[O1,VV0,VV1,VV2,VV3,VV4,VV5,VV6,VV7,VV8,VV9,mkFnV,vargs,slotsL,opdsA,Nat.reduceEqDiff,Nat.reduceLT,Nat.reduceAdd,Nat.reduceBEq,Int.reduceAdd,Int.reduceSub,Int.reduceLT,Int.reduceLE,Int.reduceEq,Int.reduceNeg,↓reduceIte,reduceCtorEq,scL,scD,expand,List.replicate,c10l1,rowI_dv,hL,sD_dv,hX])|apply gC_drawW|((first|apply gI_dec|apply gG_dec|apply gPG_dec|apply gI_var|apply gG_var|apply gPG_var)<;>intro _))
 refine wStr_w w (n+1) hC 1 2 p F X rfl rfl hp (Nat.zero_le _) (Nat.zero_le _) (by decide) (nb _ _ rfl) (by omega) ?_
 repeat' (first|(simp (disch:=first|omega|assumption|exact bd (by with_unfolding_all rfl)|exact Or.inl rfl|exact Or.inl trivial|exact okL_map _ (fun _=>rfl) _|(simp only[VVlen]<;>omega)|fail) only[O1,VV0,VV1,VV2,VV3,VV4,VV5,VV6,VV7,VV8,VV9,mkFnV,vargs,slotsL,opdsA,Nat.reduceEqDiff,Nat.reduceLT,Nat.reduceAdd,Nat.reduceBEq,Int.reduceAdd,Int.reduceSub,Int.reduceLT,Int.reduceLE,Int.reduceEq,Int.reduceNeg,↓reduceIte,reduceCtorEq,scL,scD,expand,List.replicate])|apply gC_drawW|((first|apply gI_dec|apply gG_dec|apply gPG_dec|apply gI_var|apply gG_var|apply gPG_var)<;>intro _))
 have hLm:(L.map iD).length=L.length:=by rw[List.length_map]
 refine g_while (fun m fr st=>∃ (j:Nat) (p:V),m=L.length - j∧j≤L.length∧selfP 1 p∧fr= [(1,.ptr 0 0),(5,.ptr 1 0),(23,rowsV u r M),(24,.sc (.int .i64 M.length)),(25,.sc (.int .i64 k)),(36,intsV r L),(37,.sc (.int .i64 L.length)),(38,.sc (.int .i64 j))]∧
  st=⟨[(2,.gro 5 1 false (strD ⟨((F++X)++spT ((L.take j).map Lib.itoa)).toArray⟩)),(1,.box 61 1 [p,.gr 2 2 ((F++X)++spT ((L.take j).map Lib.itoa)).length]),(0,tabO s t u r S N M)],3,0⟩) L.length ?_ ⟨_,_,weak_to [(3,2),(1,1),(0,0)] 3 h0 rfl rfl rfl rfl,0,.ptr 1 0,by omega,Nat.zero_le _,.inr rfl,rfl,by simp[spT];rfl⟩ ?_
 ·rw[hrn];unfold many;omega
 rintro m fr st ⟨j,p,rfl,hj,hp,rfl,rfl⟩
 have hil:=itoas_len hrv j
 have h22:L.length*22≤20*22:=Nat.mul_le_mul_right _ (by omega)
 have hGl:((F++X)++spT ((L.take j).map Lib.itoa)).length≤20000:=by simp only[List.length_append];omega
 by_cases hlj:j<L.length
 ·have hv:=hrv L[j]! (by rw[getElem!_pos L j hlj];exact List.getElem_mem hlj)
  have hi1:=Lib.itoa_length_le L[j]! (by omega) (by omega)
  have hit:∀ st:VSt,VSpecO C.E 32 st [.sc (.int .i64 L[j]!)] (strV (Lib.itoa L[j]!)):=fun st=>by rw[hC];exact itoa_s w (n+3) st _ (by omega) (by omega)
  have hts:spT ((L.take (j+1)).map Lib.itoa)=spT ((L.take j).map Lib.itoa)++32::Lib.itoa L[j]! :=by
   rw[List.take_succ_eq_append_getElem hlj,← getElem!_pos L j hlj,List.map_append,List.map_cons,List.map_nil,spT_snoc]
  generalize hV:L[j]! =v at*
  generalize hU:(F++X)++spT ((L.take j).map Lib.itoa)=U at*
  repeat' (first|(simp (disch:=first|omega|assumption|exact bd (by with_unfolding_all rfl)|exact Or.inl rfl|exact Or.inl trivial|exact okL_map _ (fun _=>rfl) _|(simp only[VVlen]<;>omega)|fail) only[O1,VV0,VV1,VV2,VV3,VV4,VV5,VV6,VV7,VV8,VV9,mkFnV,vargs,slotsL,opdsA,Nat.reduceEqDiff,Nat.reduceLT,Nat.reduceAdd,Nat.reduceBEq,Int.reduceAdd,Int.reduceSub,Int.reduceLT,Int.reduceLE,Int.reduceEq,Int.reduceNeg,↓reduceIte,reduceCtorEq,scL,scD,expand,List.replicate,c10l0,iD_dv,hV])|apply gC_drawW|((first|apply gI_dec|apply gG_dec|apply gPG_dec|apply gI_var|apply gG_var|apply gPG_var)<;>intro _))
  refine writeByte_w w (n+1) hC 1 2 p U 32 (by decide) rfl rfl hp (Nat.zero_le _) (Nat.zero_le _) (by decide) (nb _ _ rfl) (nb _ _ rfl) (nb _ _ rfl) (by omega) ?_
  repeat' (first|(simp (disch:=first|omega|assumption|exact bd (by with_unfolding_all rfl)|exact Or.inl rfl|exact Or.inl trivial|exact okL_map _ (fun _=>rfl) _|(simp only[VVlen]<;>omega)|fail) only[O1,VV0,VV1,VV2,VV3,VV4,VV5,VV6,VV7,VV8,VV9,mkFnV,vargs,slotsL,opdsA,Nat.reduceEqDiff,Nat.reduceLT,Nat.reduceAdd,Nat.reduceBEq,Int.reduceAdd,Int.reduceSub,Int.reduceLT,Int.reduceLE,Int.reduceEq,Int.reduceNeg,↓reduceIte,reduceCtorEq,scL,scD,expand,List.replicate])|apply gC_drawW|((first|apply gI_dec|apply gG_dec|apply gPG_dec|apply gI_var|apply gG_var|apply gPG_var)<;>intro _))
  refine callV_flat (hit _) ?_
  refine wStr_w w (n+1) hC 1 4 (.ptr 1 0) (U++ [UInt8.ofNat 32]) (Lib.itoa v) (by rw[List.length_append];rfl) rfl (.inr rfl) (Nat.zero_le _) (Nat.zero_le _) (by decide) (nb _ _ rfl) (by simp;omega) ?_
  repeat' (first|(simp (disch:=first|omega|assumption|exact bd (by with_unfolding_all rfl)|exact Or.inl rfl|exact Or.inl trivial|exact okL_map _ (fun _=>rfl) _|(simp only[VVlen]<;>omega)|fail) only[O1,VV0,VV1,VV2,VV3,VV4,VV5,VV6,VV7,VV8,VV9,mkFnV,vargs,slotsL,opdsA,Nat.reduceEqDiff,Nat.reduceLT,Nat.reduceAdd,Nat.reduceBEq,Int.reduceAdd,Int.reduceSub,Int.reduceLT,Int.reduceLE,Int.reduceEq,Int.reduceNeg,↓reduceIte,reduceCtorEq,scL,scD,expand,List.replicate])|apply gC_drawW|((first|apply gI_dec|apply gG_dec|apply gPG_dec|apply gI_var|apply gG_var|apply gPG_var)<;>intro _))
  refine ⟨_,_,_,by omega,weak_to [(5,2),(1,1),(0,0)] 3 h0 rfl rfl rfl rfl,j+1,.ptr 1 0,rfl,hlj,.inr rfl,rfl,?_⟩
  have hU2:F++X++spT ((L.take (j+1)).map Lib.itoa)=U++ [UInt8.ofNat 32]++Lib.itoa v:=by rw[hts,← hU];simp
  rw[hU2,List.length_append (bs:=Lib.itoa v)]
  rfl
 ·have:j=L.length:=by omega
  subst this
  rw[List.take_length] at hGl ⊢
  have hR:rowT X L=X++spT (L.map Lib.itoa):=rfl
  have hU2:F++(rowT X L++ [10])=(F++X++spT (L.map Lib.itoa))++ [UInt8.ofNat 10]:=by rw[hR];simp
  generalize F++X++spT (L.map Lib.itoa)=U at*
  repeat' (first|(simp (disch:=first|omega|assumption|exact bd (by with_unfolding_all rfl)|exact Or.inl rfl|exact Or.inl trivial|exact okL_map _ (fun _=>rfl) _|(simp only[VVlen]<;>omega)|fail) only[O1,VV0,VV1,VV2,VV3,VV4,VV5,VV6,VV7,VV8,VV9,mkFnV,vargs,slotsL,opdsA,Nat.reduceEqDiff,Nat.reduceLT,Nat.reduceAdd,Nat.reduceBEq,Int.reduceAdd,Int.reduceSub,Int.reduceLT,Int.reduceLE,Int.reduceEq,Int.reduceNeg,↓reduceIte,reduceCtorEq,scL,scD,expand,List.replicate,c10l0])|apply gC_drawW|((first|apply gI_dec|apply gG_dec|apply gPG_dec|apply gI_var|apply gG_var|apply gPG_var)<;>intro _))
  refine writeByte_w w (n+1) hC 1 2 p U 10 (by decide) rfl rfl hp (Nat.zero_le _) (Nat.zero_le _) (by decide) (nb _ _ rfl) (nb _ _ rfl) (nb _ _ rfl) (by omega) ?_
  repeat' (first|(simp (disch:=first|omega|assumption|exact bd (by with_unfolding_all rfl)|exact Or.inl rfl|exact Or.inl trivial|exact okL_map _ (fun _=>rfl) _|(simp only[VVlen]<;>omega)|fail) only[O1,VV0,VV1,VV2,VV3,VV4,VV5,VV6,VV7,VV8,VV9,mkFnV,vargs,slotsL,opdsA,Nat.reduceEqDiff,Nat.reduceLT,Nat.reduceAdd,Nat.reduceBEq,Int.reduceAdd,Int.reduceSub,Int.reduceLT,Int.reduceLE,Int.reduceEq,Int.reduceNeg,↓reduceIte,reduceCtorEq,scL,scD,expand,List.replicate])|apply gC_drawW|((first|apply gI_dec|apply gG_dec|apply gPG_dec|apply gI_var|apply gG_var|apply gPG_var)<;>intro _))
  refine ⟨_,_,_,by omega,weak_to [(4,2),(1,1),(0,0)] 3 h0 rfl rfl rfl rfl,k+1,.ptr 1 0,rfl,hlt,.inr rfl,rfl,?_⟩
  rw[hsn,hU2,List.length_append (bs:= [UInt8.ofNat 10])]
  rfl
end
end Go.Proofs.YteibgbbfcjgjiaaDoor
namespace Go.Proofs.YteibgbbfcjgjiaaDoor
open Go Go.Itp
set_option maxRecDepth 100000
set_option maxHeartbeats 2000000
set_option linter.unusedSimpArgs false
set_option linter.unusedVariables false
section
variable (w:World) (n:Nat)
theorem textB_p (s t u r:Nat) (hs:s ≠ 1) (T:Tb) (hm:Mod T.1 T.2.1 T.2.2):VSpec (EN w (n+5)) 10 [tableV s t u r T.1 T.2.1 T.2.2] (.tup [strV (textF T).1,.sc (.int .i64 (textF T).2)]) ⟨[],0,0⟩:=by
 by_cases h:checkS T.1 T.2.1 T.2.2=0
 ·have:=text_p w n s t u r hs T.1 T.2.1 T.2.2 h
  have e:textF T=bigF T:=by unfold textF bigF;rw[if_neg (fun hh=>hh h)]
  rw[e];exact this
 ·have:=textE_p w n s t u r T.1 T.2.1 T.2.2 hm h
  have e:textF T=([],checkS T.1 T.2.1 T.2.2):=by unfold textF;rw[if_pos h]
  rw[e];exact this
theorem same36_p (s s':Nat) (l:List Int) (hl:l.length≤100000000):VSpec (EN w (n+1)) 28 [intsV s l,intsV s' l] (.sc (.bool true)) ⟨[],0,0⟩:=by
 refine vspec_flat rfl rfl (fun _ _=>rfl) (Nat.le_of_ble_eq_true rfl) (oldVals w) rfl fun C hC h0=>?_
 repeat' (first|(simp (disch:=first|omega|assumption|exact bd (by with_unfolding_all rfl)|exact Or.inl rfl|exact Or.inl trivial|exact okL_map _ (fun _=>rfl) _|(simp only[VVlen]<;>omega)|fail) only[O1,VV0,VV1,VV2,VV3,VV4,VV5,VV6,VV7,VV8,VV9,mkFnV,vargs,slotsL,opdsA,Nat.reduceEqDiff,Nat.reduceLT,Nat.reduceAdd,Nat.reduceBEq,Int.reduceAdd,Int.reduceSub,Int.reduceLT,Int.reduceLE,Int.reduceEq,Int.reduceNeg,↓reduceIte,reduceCtorEq,scL,scD,expand,List.replicate,c28])|apply gC_drawW|((first|apply gI_dec|apply gG_dec|apply gPG_dec|apply gI_var|apply gG_var|apply gPG_var)<;>intro _))
 refine g_while (fun m fr st=>∃ k:Nat,m=l.length - k∧k≤l.length∧fr= [(0,intsV s l),(1,intsV s' l),(5,.sc (.int .i64 k))]∧st=⟨[],0,0⟩) l.length ?_ ⟨_,_,.refl _ _,0,by omega,Nat.zero_le _,rfl,rfl⟩ ?_
 ·rw[hC,callP_rounds];unfold many;omega
 rintro m fr st ⟨k,rfl,hk,rfl,rfl⟩
 by_cases hlt:k<l.length
 ·generalize hX:l[k]! =X at*
  repeat' (first|(simp (disch:=first|omega|assumption|exact bd (by with_unfolding_all rfl)|exact Or.inl rfl|exact Or.inl trivial|exact okL_map _ (fun _=>rfl) _|(simp only[VVlen]<;>omega)|fail) only[O1,VV0,VV1,VV2,VV3,VV4,VV5,VV6,VV7,VV8,VV9,mkFnV,vargs,slotsL,opdsA,Nat.reduceEqDiff,Nat.reduceLT,Nat.reduceAdd,Nat.reduceBEq,Int.reduceAdd,Int.reduceSub,Int.reduceLT,Int.reduceLE,Int.reduceEq,Int.reduceNeg,↓reduceIte,reduceCtorEq,scL,scD,expand,List.replicate,c28l0,iD_dv,hX])|apply gC_drawW|((first|apply gI_dec|apply gG_dec|apply gPG_dec|apply gI_var|apply gG_var|apply gPG_var)<;>intro _))
  all_goals try (exfalso;omega)
  exact ⟨_,_,_,by omega,.refl _ _,k+1,rfl,hlt,rfl,rfl⟩
 ·have:k=l.length:=by omega
  subst this
  repeat' (first|(simp (disch:=first|omega|assumption|exact bd (by with_unfolding_all rfl)|exact Or.inl rfl|exact Or.inl trivial|exact okL_map _ (fun _=>rfl) _|(simp only[VVlen]<;>omega)|fail) only[O1,VV0,VV1,VV2,VV3,VV4,VV5,VV6,VV7,VV8,VV9,mkFnV,vargs,slotsL,opdsA,Nat.reduceEqDiff,Nat.reduceLT,Nat.reduceAdd,Nat.reduceBEq,Int.reduceAdd,Int.reduceSub,Int.reduceLT,Int.reduceLE,Int.reduceEq,Int.reduceNeg,↓reduceIte,reduceCtorEq,scL,scD,expand,List.replicate,c28l0])|apply gC_drawW|((first|apply gI_dec|apply gG_dec|apply gPG_dec|apply gI_var|apply gG_var|apply gPG_var)<;>intro _))
  exact weak_flat rfl h0 rfl
theorem same_p (s t u r s' t' u' r':Nat) (S N:List (List UInt8)) (M:List (List Int)) (hm:Mod S N M):VSpec (EN w (n+2)) 14 [tableV s t u r S N M,tableV s' t' u' r' S N M] (.sc (.bool true)) ⟨[],0,0⟩:=by
 refine vspec_flat rfl rfl (fun _ _=>rfl) (Nat.le_of_ble_eq_true rfl) (oldVals w) rfl fun C hC h0=>?_
 obtain ⟨m1,m2,m3,m4,m5,m6⟩:=hm
 have hrn:C.E.rounds=many:=by rw[hC,callP_rounds]
 repeat' (first|(simp (disch:=first|omega|assumption|exact bd (by with_unfolding_all rfl)|exact Or.inl rfl|exact Or.inl trivial|exact okL_map _ (fun _=>rfl) _|(simp only[VVlen]<;>omega)|fail) only[O1,VV0,VV1,VV2,VV3,VV4,VV5,VV6,VV7,VV8,VV9,mkFnV,vargs,slotsL,opdsA,Nat.reduceEqDiff,Nat.reduceLT,Nat.reduceAdd,Nat.reduceBEq,Int.reduceAdd,Int.reduceSub,Int.reduceLT,Int.reduceLE,Int.reduceEq,Int.reduceNeg,↓reduceIte,reduceCtorEq,scL,scD,expand,List.replicate,c14])|apply gC_drawW|((first|apply gI_dec|apply gG_dec|apply gPG_dec|apply gI_var|apply gG_var|apply gPG_var)<;>intro _))
 all_goals try (exfalso;omega)
 refine g_while (fun m fr st=>∃ k:Nat,m=S.length - k∧k≤S.length∧fr= [(2,.ptr 0 0),(3,.ptr 1 0),(5,.sc (.int .i64 k))]∧st=⟨[(1,tabO s' t' u' r' S N M),(0,tabO s t u r S N M)],2,0⟩) S.length ?_ ⟨_,_,.refl _ _,0,by omega,Nat.zero_le _,rfl,rfl⟩ ?_
 ·rw[hrn];unfold many;omega
 rintro m fr st ⟨k,rfl,hk,rfl,rfl⟩
 by_cases hlt:k<S.length
 ·generalize hX:S[k]! =X at*
  repeat' (first|(simp (disch:=first|omega|assumption|exact bd (by with_unfolding_all rfl)|exact Or.inl rfl|exact Or.inl trivial|exact okL_map _ (fun _=>rfl) _|(simp only[VVlen]<;>omega)|fail) only[O1,VV0,VV1,VV2,VV3,VV4,VV5,VV6,VV7,VV8,VV9,mkFnV,vargs,slotsL,opdsA,Nat.reduceEqDiff,Nat.reduceLT,Nat.reduceAdd,Nat.reduceBEq,Int.reduceAdd,Int.reduceSub,Int.reduceLT,Int.reduceLE,Int.reduceEq,Int.reduceNeg,↓reduceIte,reduceCtorEq,scL,scD,expand,List.replicate,c14l2,sD_dv,hX])|apply gC_drawW|((first|apply gI_dec|apply gG_dec|apply gPG_dec|apply gI_var|apply gG_var|apply gPG_var)<;>intro _))
  all_goals try (exfalso;omega)
  exact ⟨_,_,_,by omega,.refl _ _,k+1,rfl,hlt,rfl,rfl⟩
 have:k=S.length:=by omega
 subst this
 repeat' (first|(simp (disch:=first|omega|assumption|exact bd (by with_unfolding_all rfl)|exact Or.inl rfl|exact Or.inl trivial|exact okL_map _ (fun _=>rfl) _|(simp only[VVlen]<;>omega)|fail) only[O1,VV0,VV1,VV2,VV3,VV4,VV5,VV6,VV7,VV8,VV9,mkFnV,vargs,slotsL,opdsA,Nat.reduceEqDiff,Nat.reduceLT,Nat.reduceAdd,Nat.reduceBEq,Int.reduceAdd,Int.reduceSub,Int.reduceLT,Int.reduceLE,Int.reduceEq,Int.reduceNeg,↓reduceIte,reduceCtorEq,scL,scD,expand,List.replicate,c14l2])|apply gC_drawW|((first|apply gI_dec|apply gG_dec|apply gPG_dec|apply gI_var|apply gG_var|apply gPG_var)<;>intro _))
 all_goals try (exfalso;omega)
 refine g_while (fun m fr st=>∃ k:Nat,m=N.length - k∧k≤N.length∧fr= [(2,.ptr 0 0),(3,.ptr 1 0),(6,.sc (.int .i64 k))]∧st=⟨[(1,tabO s' t' u' r' S N M),(0,tabO s t u r S N M)],2,0⟩) N.length ?_ ⟨_,_,.refl _ _,0,by omega,Nat.zero_le _,rfl,rfl⟩ ?_
 ·rw[hrn];unfold many;omega
 rintro m fr st ⟨k,rfl,hk,rfl,rfl⟩
 by_cases hlt:k<N.length
 ·generalize hX:N[k]! =X at*
  repeat' (first|(simp (disch:=first|omega|assumption|exact bd (by with_unfolding_all rfl)|exact Or.inl rfl|exact Or.inl trivial|exact okL_map _ (fun _=>rfl) _|(simp only[VVlen]<;>omega)|fail) only[O1,VV0,VV1,VV2,VV3,VV4,VV5,VV6,VV7,VV8,VV9,mkFnV,vargs,slotsL,opdsA,Nat.reduceEqDiff,Nat.reduceLT,Nat.reduceAdd,Nat.reduceBEq,Int.reduceAdd,Int.reduceSub,Int.reduceLT,Int.reduceLE,Int.reduceEq,Int.reduceNeg,↓reduceIte,reduceCtorEq,scL,scD,expand,List.replicate,c14l1,sD_dv,hX])|apply gC_drawW|((first|apply gI_dec|apply gG_dec|apply gPG_dec|apply gI_var|apply gG_var|apply gPG_var)<;>intro _))
  all_goals try (exfalso;omega)
  exact ⟨_,_,_,by omega,.refl _ _,k+1,rfl,hlt,rfl,rfl⟩
 have:k=N.length:=by omega
 subst this
 repeat' (first|(simp (disch:=first|omega|assumption|exact bd (by with_unfolding_all rfl)|exact Or.inl rfl|exact Or.inl trivial|exact okL_map _ (fun _=>rfl) _|(simp only[VVlen]<;>omega)|fail) only[O1,VV0,VV1,VV2,VV3,VV4,VV5,VV6,VV7,VV8,VV9,mkFnV,vargs,slotsL,opdsA,Nat.reduceEqDiff,Nat.reduceLT,Nat.reduceAdd,Nat.reduceBEq,Int.reduceAdd,Int.reduceSub,Int.reduceLT,Int.reduceLE,Int.reduceEq,Int.reduceNeg,↓reduceIte,reduceCtorEq,scL,scD,expand,List.replicate,c14l1])|apply gC_drawW|((first|apply gI_dec|apply gG_dec|apply gPG_dec|apply gI_var|apply gG_var|apply gPG_var)<;>intro _))
 all_goals try (exfalso;omega)
 refine g_while (fun m fr st=>∃ k:Nat,m=M.length - k∧k≤M.length∧fr= [(2,.ptr 0 0),(3,.ptr 1 0),(7,.sc (.int .i64 k))]∧st=⟨[(1,tabO s' t' u' r' S N M),(0,tabO s t u r S N M)],2,0⟩) M.length ?_ ⟨_,_,.refl _ _,0,by omega,Nat.zero_le _,rfl,rfl⟩ ?_
 ·rw[hrn];unfold many;omega
 rintro m fr st ⟨k,rfl,hk,rfl,rfl⟩
 by_cases hlt:k<M.length
 ·have hsm:=same36_p w n r r' M[k]! (m6 k hlt)
  generalize hX:M[k]! =X at*
  repeat' (first|(simp (disch:=first|omega|assumption|exact bd (by with_unfolding_all rfl)|exact Or.inl rfl|exact Or.inl trivial|exact okL_map _ (fun _=>rfl) _|(simp only[VVlen]<;>omega)|fail) only[O1,VV0,VV1,VV2,VV3,VV4,VV5,VV6,VV7,VV8,VV9,mkFnV,vargs,slotsL,opdsA,Nat.reduceEqDiff,Nat.reduceLT,Nat.reduceAdd,Nat.reduceBEq,Int.reduceAdd,Int.reduceSub,Int.reduceLT,Int.reduceLE,Int.reduceEq,Int.reduceNeg,↓reduceIte,reduceCtorEq,scL,scD,expand,List.replicate,c14l0,rowI_dv,hX])|apply gC_drawW|((first|apply gI_dec|apply gG_dec|apply gPG_dec|apply gI_var|apply gG_var|apply gPG_var)<;>intro _))
  all_goals try (exfalso;omega)
  refine callV_flat (by rw[hC];exact hsm.flat rfl rfl) ?_
  repeat' (first|(simp (disch:=first|omega|assumption|exact bd (by with_unfolding_all rfl)|exact Or.inl rfl|exact Or.inl trivial|exact okL_map _ (fun _=>rfl) _|(simp only[VVlen]<;>omega)|fail) only[O1,VV0,VV1,VV2,VV3,VV4,VV5,VV6,VV7,VV8,VV9,mkFnV,vargs,slotsL,opdsA,Nat.reduceEqDiff,Nat.reduceLT,Nat.reduceAdd,Nat.reduceBEq,Int.reduceAdd,Int.reduceSub,Int.reduceLT,Int.reduceLE,Int.reduceEq,Int.reduceNeg,↓reduceIte,reduceCtorEq,scL,scD,expand,List.replicate])|apply gC_drawW|((first|apply gI_dec|apply gG_dec|apply gPG_dec|apply gI_var|apply gG_var|apply gPG_var)<;>intro _))
  exact ⟨_,_,_,by omega,.refl _ _,k+1,rfl,hlt,rfl,rfl⟩
 have:k=M.length:=by omega
 subst this
 repeat' (first|(simp (disch:=first|omega|assumption|exact bd (by with_unfolding_all rfl)|exact Or.inl rfl|exact Or.inl trivial|exact okL_map _ (fun _=>rfl) _|(simp only[VVlen]<;>omega)|fail) only[O1,VV0,VV1,VV2,VV3,VV4,VV5,VV6,VV7,VV8,VV9,mkFnV,vargs,slotsL,opdsA,Nat.reduceEqDiff,Nat.reduceLT,Nat.reduceAdd,Nat.reduceBEq,Int.reduceAdd,Int.reduceSub,Int.reduceLT,Int.reduceLE,Int.reduceEq,Int.reduceNeg,↓reduceIte,reduceCtorEq,scL,scD,expand,List.replicate,c14l0])|apply gC_drawW|((first|apply gI_dec|apply gG_dec|apply gPG_dec|apply gI_var|apply gG_var|apply gPG_var)<;>intro _))
 all_goals try (exfalso;omega)
 exact weak_flat rfl h0 rfl
end
end Go.Proofs.YteibgbbfcjgjiaaDoor
namespace Go.Proofs.YteibgbbfcjgjiaaDoor
open Go Go.Itp
set_option maxRecDepth 100000
set_option maxHeartbeats 2000000
set_option linter.unusedSimpArgs false
set_option linter.unusedVariables false
theorem vslc_loR (e o n c:Nat) (j:IntKind) (hc:c<1000000000000) (hn:n≤c) (h1:1≤n):vslc e (some (.int j 1)) none none (.ref o 0 n c)=some (.ref o (if c=1 then 0 else 1*e) (n - 1) (c - 1)):=by
 have h2:Nat.blt c big=true:=by rw[Nat.blt_eq];unfold big;omega
 have h4:slcN n c (some (.int j 1)) none none=some (1,n,c - 1,Nat.beq c 1):=by
  simp only[slcN,knownCap,h2,if_true,bndNat,Option.bind_some]
  rw[if_pos ⟨by omega,by omega⟩]
  simp[h2]
 simp only[vslc,h4,Option.map_some]
 by_cases hb:c=1
 ·rw[if_pos (nbeq.2 hb),if_pos hb]
 ·rw[if_neg (by rw[nbeq];exact hb),if_neg hb];simp
section
variable (w:World) (n:Nat)
theorem trim0_p (l:List UInt8) (hl:l.length≤1000000):VSpec (EN w (n+2)) 55 [strV l,strV [10]] (strV (trimS l)) ⟨[],0,0⟩:=by
 refine vspec_flat rfl rfl (fun _ _=>rfl) (Nat.le_of_ble_eq_true rfl) (oldVals w) rfl fun C hC h0=>?_
 have h1:(ByteArray.mk [(10:UInt8)].toArray).size=1:=rfl
 have h1b:(ByteArray.mk #[(10:UInt8)]).size=1:=rfl
 have h1i:((1:Nat):Int)=1:=rfl
 have hsz:=mk_size l
 have hs:=(hasSuf_p w n l 10 hl).of hC rfl
 unfold trimS
 by_cases hg:l.getLast? =some 10
 ·rw[decide_eq_true hg] at hs
  rw[if_pos hg]
  have hn:l ≠ []:=fun e=>by rw[e] at hg;cases hg
  have hp:=List.length_pos_iff.2 hn
  have e2:=slcS_hi l .i64 ((l.length:Int) - 1) (by omega) (by omega)
  rw[show ((l.length:Int) - 1).toNat=l.length - 1 by omega,← List.dropLast_eq_take] at e2
  have e3:(((ByteArray.mk l.toArray).size:Nat):Int) - 1=(l.length:Int) - 1:=by rw[hsz]
  repeat' (first|(simp (disch:=first|omega|assumption|exact bd (by with_unfolding_all rfl)|exact Or.inl rfl|exact Or.inl trivial|exact okL_map _ (fun _=>rfl) _|(simp only[VVlen]<;>omega)|fail) only[O1,VV0,VV1,VV2,VV3,VV4,VV5,VV6,VV7,VV8,VV9,mkFnV,vargs,slotsL,opdsA,Nat.reduceEqDiff,Nat.reduceLT,Nat.reduceAdd,Nat.reduceBEq,Int.reduceAdd,Int.reduceSub,Int.reduceLT,Int.reduceLE,Int.reduceEq,Int.reduceNeg,↓reduceIte,reduceCtorEq,scL,scD,expand,List.replicate,c55])|apply gC_drawW|((first|apply gI_dec|apply gG_dec|apply gPG_dec|apply gI_var|apply gG_var|apply gPG_var)<;>intro _))
  refine callV_flat (hs _ rfl) ?_
  repeat' (first|(simp (disch:=first|omega|assumption|exact bd (by with_unfolding_all rfl)|exact Or.inl rfl|exact Or.inl trivial|exact okL_map _ (fun _=>rfl) _|(simp only[VVlen]<;>omega)|fail) only[O1,VV0,VV1,VV2,VV3,VV4,VV5,VV6,VV7,VV8,VV9,mkFnV,vargs,slotsL,opdsA,Nat.reduceEqDiff,Nat.reduceLT,Nat.reduceAdd,Nat.reduceBEq,Int.reduceAdd,Int.reduceSub,Int.reduceLT,Int.reduceLE,Int.reduceEq,Int.reduceNeg,↓reduceIte,reduceCtorEq,scL,scD,expand,List.replicate,h1,h1b,h1i,e3,e2])|apply gC_drawW|((first|apply gI_dec|apply gG_dec|apply gPG_dec|apply gI_var|apply gG_var|apply gPG_var)<;>intro _))
  exact weak_flat rfl h0 rfl
 ·rw[decide_eq_false hg] at hs
  rw[if_neg hg]
  repeat' (first|(simp (disch:=first|omega|assumption|exact bd (by with_unfolding_all rfl)|exact Or.inl rfl|exact Or.inl trivial|exact okL_map _ (fun _=>rfl) _|(simp only[VVlen]<;>omega)|fail) only[O1,VV0,VV1,VV2,VV3,VV4,VV5,VV6,VV7,VV8,VV9,mkFnV,vargs,slotsL,opdsA,Nat.reduceEqDiff,Nat.reduceLT,Nat.reduceAdd,Nat.reduceBEq,Int.reduceAdd,Int.reduceSub,Int.reduceLT,Int.reduceLE,Int.reduceEq,Int.reduceNeg,↓reduceIte,reduceCtorEq,scL,scD,expand,List.replicate,c55])|apply gC_drawW|((first|apply gI_dec|apply gG_dec|apply gPG_dec|apply gI_var|apply gG_var|apply gPG_var)<;>intro _))
  refine callV_flat (hs _ rfl) ?_
  repeat' (first|(simp (disch:=first|omega|assumption|exact bd (by with_unfolding_all rfl)|exact Or.inl rfl|exact Or.inl trivial|exact okL_map _ (fun _=>rfl) _|(simp only[VVlen]<;>omega)|fail) only[O1,VV0,VV1,VV2,VV3,VV4,VV5,VV6,VV7,VV8,VV9,mkFnV,vargs,slotsL,opdsA,Nat.reduceEqDiff,Nat.reduceLT,Nat.reduceAdd,Nat.reduceBEq,Int.reduceAdd,Int.reduceSub,Int.reduceLT,Int.reduceLE,Int.reduceEq,Int.reduceNeg,↓reduceIte,reduceCtorEq,scL,scD,expand,List.replicate])|apply gC_drawW|((first|apply gI_dec|apply gG_dec|apply gPG_dec|apply gI_var|apply gG_var|apply gPG_var)<;>intro _))
  exact weak_flat rfl h0 rfl
theorem trim_p (l:List UInt8) (hl:l.length≤1000000):VSpec (EN w (n+3)) 37 [strV l,strV [10]] (strV (trimS l)) ⟨[],0,0⟩:=by
 refine vspec_flat rfl rfl (fun _ _=>rfl) (Nat.le_of_ble_eq_true rfl) (oldVals w) rfl fun C hC h0=>?_
 repeat' (first|(simp (disch:=first|omega|assumption|exact bd (by with_unfolding_all rfl)|exact Or.inl rfl|exact Or.inl trivial|exact okL_map _ (fun _=>rfl) _|(simp only[VVlen]<;>omega)|fail) only[O1,VV0,VV1,VV2,VV3,VV4,VV5,VV6,VV7,VV8,VV9,mkFnV,vargs,slotsL,opdsA,Nat.reduceEqDiff,Nat.reduceLT,Nat.reduceAdd,Nat.reduceBEq,Int.reduceAdd,Int.reduceSub,Int.reduceLT,Int.reduceLE,Int.reduceEq,Int.reduceNeg,↓reduceIte,reduceCtorEq,scL,scD,expand,List.replicate,c37])|apply gC_drawW|((first|apply gI_dec|apply gG_dec|apply gPG_dec|apply gI_var|apply gG_var|apply gPG_var)<;>intro _))
 refine callV_flat ((trim0_p w n l hl).of hC rfl _ rfl) ?_
 repeat' (first|(simp (disch:=first|omega|assumption|exact bd (by with_unfolding_all rfl)|exact Or.inl rfl|exact Or.inl trivial|exact okL_map _ (fun _=>rfl) _|(simp only[VVlen]<;>omega)|fail) only[O1,VV0,VV1,VV2,VV3,VV4,VV5,VV6,VV7,VV8,VV9,mkFnV,vargs,slotsL,opdsA,Nat.reduceEqDiff,Nat.reduceLT,Nat.reduceAdd,Nat.reduceBEq,Int.reduceAdd,Int.reduceSub,Int.reduceLT,Int.reduceLE,Int.reduceEq,Int.reduceNeg,↓reduceIte,reduceCtorEq,scL,scD,expand,List.replicate])|apply gC_drawW|((first|apply gI_dec|apply gG_dec|apply gPG_dec|apply gI_var|apply gG_var|apply gPG_var)<;>intro _))
 exact weak_flat rfl h0 rfl
theorem atoi_any {C:Ctx} {st:VSt} {Q:V→VSt→Prop} (hC:C.E=EN w (n+1)) (l:List UInt8) (hl:l.length≤1000000) (hes:(errO Tryd.prog w "strconv.ErrSyntax").isSome=true) (her:(errO Tryd.prog w "strconv.ErrRange").isSome=true)
  (h1:∀ v,numA l=some v→Q (.tup [.sc (.int .i64 v),.sc .nilIface]) st)
  (h2:numA l=none→∀ (k:Int) (cs:List V),Q (.tup [.sc (.int .i64 k),.ifc 100 (.ptr st.next 0)]) ⟨(st.next,.box 119 1 cs)::st.own,st.next+1,st.ro⟩):CallV C 38 [strV l] st Q:=by
 have hs:(ByteArray.mk l.toArray).size≤281474976710656:=by rw[mk_size];omega
 cases hu:numA l with
 |some v=>exact callV_flat (by rw[hC];exact atoi_s w n _ ⟨l.toArray⟩ v hs (numA_ok hu)) (h1 v hu)
 |none=>
  obtain ⟨k,cs,sp⟩:=atoi_f w n ⟨l.toArray⟩ hs hes her (numA_none hu)
  refine callV_of (by rw[hC];exact sp) rfl rfl rfl ?_
  obtain ⟨H,nx,ro⟩:=st
  have:=h2 hu k (vshL nx (cs.map V.sc))
  simp only[vsh,vshL,shH,shO,fzSL,fzS,frozA_none,Nat.add_zero,Nat.zero_add,List.nil_append,List.cons_append] at this ⊢
  exact this
end
end Go.Proofs.YteibgbbfcjgjiaaDoor
namespace Go.Proofs.YteibgbbfcjgjiaaDoor
open Go Go.Itp
set_option maxRecDepth 100000
set_option maxHeartbeats 2000000
set_option linter.unusedSimpArgs false
set_option linter.unusedVariables false
abbrev parH (ls S N:List (List UInt8)) (M:List (List Int)):VHp:=
 [(4,.gro 40 1 false (M.map (rowI 0))),(3,.gro 9 1 false (N.map sD)),(2,.row 9 1 false false (ls.map sD)),(1,.box 25 1 [strs 0 S,.gr 2 3 N.length,.gr 2 4 M.length]),(0,.box 25 1 [.sc (.slice none 0 0),.sc (.slice none 0 0),.sc (.slice none 0 0)])]
def fillI (l:List Int) (m:Nat):List D:=l.map iD++List.replicate (m - l.length) (D.sc (.int .i64 0))
theorem fillI_len (l:List Int) (m:Nat) (h:l.length≤m):(fillI l m).length=m:=by simp[fillI];omega
theorem fillI_set (l:List Int) (v:Int) (m:Nat) (h:l.length<m):(fillI l m).take l.length++ [D.sc (.int .i64 v)]++(fillI l m).drop (l.length+1)=fillI (l++ [v]) m:=by
 unfold fillI
 rw[List.take_append_of_le_length (by simp),List.take_of_length_le (by simp),List.drop_append,List.length_map,List.drop_eq_nil_of_le (by simp),List.nil_append,List.length_append,List.map_append,List.drop_replicate]
 simp only[List.length_singleton,List.map_cons,List.map_nil,List.append_assoc]
 rw[show m - l.length - (l.length+1 - l.length)=m - (l.length+1) by omega]
 rfl
theorem fillI_take (l:List Int) (m:Nat):(fillI l m).take l.length=l.map iD:=by
 unfold fillI
 rw[List.take_append_of_le_length (by simp),List.take_of_length_le (by simp)]
theorem allN_snoc (f:List UInt8→Option Int):∀ (a:List (List UInt8)) (l:List Int) (r:List (List UInt8)),allN f a=some l→allN f (a++r)=(allN f r).map (l++·)
 | [],l,r,h=>by simp only[allN,Option.some.injEq] at h;subst h;simp
 |x::a,l,r,h=>by
  simp only[allN,Option.bind_eq_some_iff,Option.map_eq_some_iff] at h
  obtain ⟨v,h1,l',h2,rfl⟩:=h
  simp only[List.cons_append,allN,h1,Option.bind_some,allN_snoc f a l' r h2]
  cases allN f r<;>rfl
theorem allN_len {f:List UInt8→Option Int}:∀ {a:List (List UInt8)} {l:List Int},allN f a=some l→l.length=a.length
 | [],l,h=>by simp only[allN,Option.some.injEq] at h;subst h;rfl
 |x::a,l,h=>by
  simp only[allN,Option.bind_eq_some_iff,Option.map_eq_some_iff] at h
  obtain ⟨v,h1,l',h2,rfl⟩:=h
  simp[allN_len h2]
theorem appFull_in (nx t e b n c o k m:Nat) (base:Src) (new:List D) (fz:List Nat) (hm:m ≠ 0) (hc:n+m≤c):appFull nx t e b n c o k base (some (m,new,fz))=none:=by
 have h:Nat.blt c (n+m)=false:=by rw[← Bool.not_eq_true,Nat.blt_eq];omega
 simp only[appFull,h,Bool.and_false,Bool.false_and,Bool.false_eq_true,if_false]
 rw[if_neg (by rw[nbeq];exact hm)]
 split<;>rfl
theorem appRoom_lo (H:VHp) (nx ro t e b o k n c t' e' m:Nat) (g:Bool) (l new:List D) (hro:ro≤o) (he:e ≠ 0) (hm:m ≠ 0) (hok:okL new=true) (hle:n+m≤c) (hc:c≤1099511627776) (h2:(n+m)*b≤1099511627776) (hl:k+n*e+new.length≤l.length):
  appRoom ⟨H,nx,ro⟩ t e b o k n c (some (.row t' e' g false l)) (some (m,new,[]))=some (.ref o k (n+m) c,⟨aset H o (.row t' e' g false (l.take (k+n*e)++new++l.drop (k+n*e+new.length))),nx,ro⟩):=by
 simp only[appRoom,hok]
 have hb:Nat.ble ro o=true:=by rw[Nat.ble_eq];exact hro
 have h3:Nat.ble (n+m) room=true:=by rw[Nat.ble_eq];unfold room;omega
 have h4:Nat.ble ((n+m)*b) room=true:=by rw[Nat.ble_eq];exact h2
 have h5:Nat.blt c big=true:=by rw[Nat.blt_eq];unfold big;omega
 have h6:Nat.ble (n+m) c=true:=by rw[Nat.ble_eq];exact hle
 rw[if_pos (by simp[nbf.2 he,rowsB]),if_neg (by simp[hb,h3,h4,nbf.2 hm]),if_pos h5,if_pos (by rw[h6];simp[elemB])]
 rw[putL_mid _ _ _ hl,frozA_nil]
 rfl
section
variable (w:World) (n:Nat)
theorem nums_walk {C:Ctx} (hC:C.E=EN w (n+7)) (h0:C.w0.nx=0) (hes:(errO Tryd.prog w "strconv.ErrSyntax").isSome=true) (her:(errO Tryd.prog w "strconv.ErrRange").isSome=true) (s:List UInt8) (ls S N:List (List UInt8)) (M:List (List Int)) (i:Nat) (ws:List (List UInt8)) (hw:0<ws.length) (hwl:ws.length≤10000) (hx:∀ x ∈ ws,x.length≤10000) {K:List KF} {P:VPost}
  (hgo:∀ l,allN numA ws.tail=some l→gK C K (.exit 2) [(0,strV s),(2,.ptr 0 0),(4,.ptr 1 0),(7,.ref 5 0 ws.length ws.length),(8,.ref 6 0 l.length ws.length),(21,.ref 2 0 ls.length ls.length),(22,.sc (.int .i64 ls.length)),(23,.sc (.int .i64 i)),(39,.ref 5 (if ws.length=1 then 0 else 1) (ws.length - 1) (ws.length - 1)),(40,.sc (.int .i64 ((ws.length - 1:Nat):Int))),(41,.sc (.int .i64 ((ws.length - 1:Nat):Int))),(42,.sc (.bool false))] ⟨(6,.row 3 1 false false (fillI l ws.length))::(5,.row 9 1 false false (ws.map sD))::parH ls S N M,7,0⟩ P)
  (hstop:allN numA ws.tail=none→∀ fr st,st.ro=0→aget st.own 0=some (.box 25 1 [.sc (.slice none 0 0),.sc (.slice none 0 0),.sc (.slice none 0 0)])→aget fr 2=some (.ptr 0 0)→aget fr 3=some (.sc (.int .i64 12))→gK C K .ret fr st P):
  gL C [0,2,4,7,8,21,22,23,39,40,41] c12l0 K [(0,strV s),(2,.ptr 0 0),(4,.ptr 1 0),(7,.ref 5 0 ws.length ws.length),(8,.ref 6 0 0 ws.length),(21,.ref 2 0 ls.length ls.length),(22,.sc (.int .i64 ls.length)),(23,.sc (.int .i64 i)),(39,.ref 5 (if ws.length=1 then 0 else 1) (ws.length - 1) (ws.length - 1)),(40,.sc (.int .i64 ((ws.length - 1:Nat):Int))),(41,.sc (.int .i64 0))] ⟨(6,.row 3 1 false false (fillI [] ws.length))::(5,.row 9 1 false false (ws.map sD))::parH ls S N M,7,0⟩ P:=by
 have hrn:C.E.rounds=many:=by rw[hC,callP_rounds]
 refine g_while (fun m fr st=>∃ (j:Nat) (l:List Int),m=ws.length - 1 - j∧j≤ws.length - 1∧allN numA (ws.tail.take j)=some l∧fr= [(0,strV s),(2,.ptr 0 0),(4,.ptr 1 0),(7,.ref 5 0 ws.length ws.length),(8,.ref 6 0 l.length ws.length),(21,.ref 2 0 ls.length ls.length),(22,.sc (.int .i64 ls.length)),(23,.sc (.int .i64 i)),(39,.ref 5 (if ws.length=1 then 0 else 1) (ws.length - 1) (ws.length - 1)),(40,.sc (.int .i64 ((ws.length - 1:Nat):Int))),(41,.sc (.int .i64 j))]∧
  st=⟨(6,.row 3 1 false false (fillI l ws.length))::(5,.row 9 1 false false (ws.map sD))::parH ls S N M,7,0⟩) (ws.length - 1) ?_ ⟨_,_,.refl _ _,0,[],by omega,Nat.zero_le _,by simp[allN],rfl,rfl⟩ ?_
 ·rw[hrn];unfold many;omega
 rintro m fr st ⟨j,l,rfl,hj,hal,rfl,rfl⟩
 have hll:=allN_len hal
 have htl:ws.tail.length=ws.length - 1:=by simp
 rw[List.length_take,htl,Nat.min_eq_left hj] at hll
 by_cases hlt:j<ws.length - 1
 case neg=>
  have:j=ws.length - 1:=by omega
  subst this
  rw[List.take_of_length_le (by omega)] at hal
  have hgo:=hgo l hal
  repeat' (first|(simp (disch:=first|omega|assumption|exact bd (by with_unfolding_all rfl)|exact Or.inl rfl|exact Or.inl trivial|exact okL_map _ (fun _=>rfl) _|(simp only[VVlen]<;>omega)|fail) only[O1,VV0,VV1,VV2,VV3,VV4,VV5,VV6,VV7,VV8,VV9,mkFnV,vargs,slotsL,opdsA,Nat.reduceEqDiff,Nat.reduceLT,Nat.reduceAdd,Nat.reduceBEq,Int.reduceAdd,Int.reduceSub,Int.reduceLT,Int.reduceLE,Int.reduceEq,Int.reduceNeg,↓reduceIte,reduceCtorEq,scL,scD,expand,List.replicate,c12l0])|apply gC_drawW|((first|apply gI_dec|apply gG_dec|apply gPG_dec|apply gI_var|apply gG_var|apply gPG_var)<;>intro _))
  all_goals try (exfalso;omega)
  exact hgo
 have hw1:¬ ws.length=1:=by omega
 rw[if_neg hw1]
 have hwm:(ws.map sD).length=ws.length:=by rw[List.length_map]
 have hjw:ws.tail[j]! =ws[j+1]! :=by
  rw[getElem!_pos _ j (by omega),getElem!_pos ws (j+1) (by omega)]
  simp
 have hxj:=hx ws[j+1]! (by rw[getElem!_pos ws (j+1) (by omega)];exact List.getElem_mem (by omega))
 have htk:ws.tail.take (j+1)=ws.tail.take j++ [ws[j+1]!]:=by
  rw[List.take_succ_eq_append_getElem (by omega),← getElem!_pos ws.tail j (by omega),hjw]
 have hsplit:ws.tail=ws.tail.take j++(ws[j+1]! ::ws.tail.drop (j+1)):=by
  rw[← hjw,getElem!_pos ws.tail j (by omega),← List.drop_eq_getElem_cons (by omega),List.take_append_drop]
 have hnone:numA ws[j+1]! =none→allN numA ws.tail=none:=fun hv=>by
  rw[hsplit,allN_snoc _ _ _ _ hal,allN,hv];rfl
 have hsome:∀ v,numA ws[j+1]! =some v→allN numA (ws.tail.take (j+1))=some (l++ [v]):=fun v hv=>by
  rw[htk,allN_snoc _ _ _ _ hal,allN,hv];rfl
 have hadd:j+1=1+j:=by omega
 generalize hX:ws[j+1]! =X at*
 have hX2:ws[1+j]! =X:=by rw[← hadd];exact hX
 repeat' (first|(simp (disch:=first|omega|assumption|exact bd (by with_unfolding_all rfl)|exact Or.inl rfl|exact Or.inl trivial|exact okL_map _ (fun _=>rfl) _|(simp only[VVlen]<;>omega)|fail) only[O1,VV0,VV1,VV2,VV3,VV4,VV5,VV6,VV7,VV8,VV9,mkFnV,vargs,slotsL,opdsA,Nat.reduceEqDiff,Nat.reduceLT,Nat.reduceAdd,Nat.reduceBEq,Int.reduceAdd,Int.reduceSub,Int.reduceLT,Int.reduceLE,Int.reduceEq,Int.reduceNeg,↓reduceIte,reduceCtorEq,scL,scD,expand,List.replicate,c12l0,sD_dv,hX,hX2])|apply gC_drawW|((first|apply gI_dec|apply gG_dec|apply gPG_dec|apply gI_var|apply gG_var|apply gPG_var)<;>intro _))
 all_goals try (exfalso;omega)
 have hfs:=fun v=>fillI_set l v ws.length (by omega)
 have hfl:=fillI_len l ws.length (by omega)
 refine atoi_any w (n+6) hC X (by omega) hes her (fun v hv=>?_) (fun hv kv cv=>?_)
 ·repeat' (first|(simp (disch:=first|omega|assumption|exact bd (by with_unfolding_all rfl)|exact Or.inl rfl|exact Or.inl trivial|exact okL_map _ (fun _=>rfl) _|(simp only[VVlen]<;>omega)|fail) only[O1,VV0,VV1,VV2,VV3,VV4,VV5,VV6,VV7,VV8,VV9,mkFnV,vargs,slotsL,opdsA,Nat.reduceEqDiff,Nat.reduceLT,Nat.reduceAdd,Nat.reduceBEq,Int.reduceAdd,Int.reduceSub,Int.reduceLT,Int.reduceLE,Int.reduceEq,Int.reduceNeg,↓reduceIte,reduceCtorEq,scL,scD,expand,List.replicate,eqIf_ifc,eqIf_nil,eqIfA_nn,appFull_in,appRoom_lo,Nat.mul_one,Nat.zero_add])|apply gC_drawW|((first|apply gI_dec|apply gG_dec|apply gPG_dec|apply gI_var|apply gG_var|apply gPG_var)<;>intro _))
  all_goals try (exfalso;omega)
  refine ⟨_,_,_,?_,weak_toB [(6,6),(5,5),(4,4),(3,3),(2,2),(1,1),(0,0)] 7 (by rw[h0];exact Nat.zero_le _) rfl (by rw[h0];rfl) ?_ ?_,j+1,l++ [v],rfl,by omega,hsome v hv,rfl,rfl⟩
  ·omega
  ·rw[List.length_append,List.length_singleton]
   rfl
  ·rw[hfs]
   rfl
 ·repeat' (first|(simp (disch:=first|omega|assumption|exact bd (by with_unfolding_all rfl)|exact Or.inl rfl|exact Or.inl trivial|exact okL_map _ (fun _=>rfl) _|(simp only[VVlen]<;>omega)|fail) only[O1,VV0,VV1,VV2,VV3,VV4,VV5,VV6,VV7,VV8,VV9,mkFnV,vargs,slotsL,opdsA,Nat.reduceEqDiff,Nat.reduceLT,Nat.reduceAdd,Nat.reduceBEq,Int.reduceAdd,Int.reduceSub,Int.reduceLT,Int.reduceLE,Int.reduceEq,Int.reduceNeg,↓reduceIte,reduceCtorEq,scL,scD,expand,List.replicate,eqIf_ifc,eqIf_nil,eqIfA_nn])|apply gC_drawW|((first|apply gI_dec|apply gG_dec|apply gPG_dec|apply gI_var|apply gG_var|apply gPG_var)<;>intro _))
  exact hstop (hnone hv) _ _ rfl rfl rfl rfl
end
end Go.Proofs.YteibgbbfcjgjiaaDoor
namespace Go.Proofs.YteibgbbfcjgjiaaDoor
open Go Go.Itp
set_option maxRecDepth 100000
set_option maxHeartbeats 2000000
set_option linter.unusedSimpArgs false
set_option linter.unusedVariables false
section
variable (w:World) (n:Nat)
theorem row_round {C:Ctx} (hC:C.E=EN w (n+7)) (h0:C.w0.nx=0) (hes:(errO Tryd.prog w "strconv.ErrSyntax").isSome=true) (her:(errO Tryd.prog w "strconv.ErrRange").isSome=true) (s:List UInt8) (ls S N:List (List UInt8)) (M:List (List Int)) (i:Nat) (hi0:0<i) (hil:i<ls.length) (hls:ls.length≤10000) (hN:N.length≤10000) (hNM:M.length=N.length) (X:List UInt8) (hX:ls[i]! =X) (hXl:X.length≤8000) (ws:List (List UInt8)) (hws:words 32 X=ws) (hw:0<ws.length) (hwl:ws.length≤10000) (hx:∀ x ∈ ws,x.length≤10000) {P:VPost}
  (hgo:∀ l,allN numA ws.tail=some l→∀ fr st,Weak C fr st [(0,strV s),(2,.ptr 0 0),(4,.ptr 1 0),(21,.ref 2 0 ls.length ls.length),(22,.sc (.int .i64 ls.length)),(23,.sc (.int .i64 ((i:Int)+1)))] ⟨parH ls S (N++ [ws[0]!]) (M++ [l]),5,0⟩→P .normal fr st)
  (hstop:allN numA ws.tail=none→∀ fr st,st.ro=0→aget st.own 0=some (.box 25 1 [.sc (.slice none 0 0),.sc (.slice none 0 0),.sc (.slice none 0 0)])→aget fr 2=some (.ptr 0 0)→aget fr 3=some (.sc (.int .i64 12))→P .ret fr st):
  gC C c12l1 [] [(0,strV s),(2,.ptr 0 0),(4,.ptr 1 0),(21,.ref 2 0 ls.length ls.length),(22,.sc (.int .i64 ls.length)),(23,.sc (.int .i64 i))] ⟨parH ls S N M,5,0⟩ P:=by
 have hlm:(ls.map sD).length=ls.length:=by rw[List.length_map]
 have hwm:(ws.map sD).length=ws.length:=by rw[List.length_map]
 have hi1:¬ ((i:Int)=0):=by omega
 have hsp:=split_p w (n+1) X 32 (by omega)
 rw[hws] at hsp
 repeat' (first|(simp (disch:=first|omega|assumption|exact bd (by with_unfolding_all rfl)|exact Or.inl rfl|exact Or.inl trivial|exact okL_map _ (fun _=>rfl) _|(simp only[VVlen]<;>omega)|fail) only[O1,VV0,VV1,VV2,VV3,VV4,VV5,VV6,VV7,VV8,VV9,mkFnV,vargs,slotsL,opdsA,Nat.reduceEqDiff,Nat.reduceLT,Nat.reduceAdd,Nat.reduceBEq,Int.reduceAdd,Int.reduceSub,Int.reduceLT,Int.reduceLE,Int.reduceEq,Int.reduceNeg,↓reduceIte,reduceCtorEq,scL,scD,expand,List.replicate,c12l1,sD_dv,hX,hi1])|apply gC_drawW|((first|apply gI_dec|apply gG_dec|apply gPG_dec|apply gI_var|apply gG_var|apply gPG_var)<;>intro _))
 all_goals try (exfalso;omega)
 refine callV_of (by rw[hC];exact hsp) rfl rfl rfl ?_
 repeat' (first|(simp (disch:=first|omega|assumption|exact bd (by with_unfolding_all rfl)|exact Or.inl rfl|exact Or.inl trivial|exact okL_map _ (fun _=>rfl) _|(simp only[VVlen]<;>omega)|fail) only[O1,VV0,VV1,VV2,VV3,VV4,VV5,VV6,VV7,VV8,VV9,mkFnV,vargs,slotsL,opdsA,Nat.reduceEqDiff,Nat.reduceLT,Nat.reduceAdd,Nat.reduceBEq,Int.reduceAdd,Int.reduceSub,Int.reduceLT,Int.reduceLE,Int.reduceEq,Int.reduceNeg,↓reduceIte,reduceCtorEq,scL,scD,expand,List.replicate,vsh,vshL,shH,shO,fzSL,fzS,hi1,vslc_loR,Nat.mul_one])|apply gC_drawW|((first|apply gI_dec|apply gG_dec|apply gPG_dec|apply gI_var|apply gG_var|apply gPG_var)<;>intro _))
 all_goals try (exfalso;omega)
 have hf0:fillI [] ws.length=List.replicate ws.length (D.sc (.int .i64 0)):=by simp[fillI]
 have hnw:=fun K P=>nums_walk (K:=K) (P:=P) w n hC h0 hes her s ls S N M i ws hw hwl hx
 rw[hf0] at hnw
 refine hnw _ _ (fun l hl=>?_) (fun hno fr st h1 h2 h3 h4=>?_)
 ·change gC C (.drawW _ _ _) _ _ _ _
  have hll:=allN_len hl
  rw[List.length_tail] at hll
  have hflen:=fillI_len l ws.length (by omega)
  refine gC_drawW_weak (weak_snap (t:=8) (v':= .sl 0 l.length (l.map iD)) rfl ?_ rfl) ?_
  ·show (toD _ (.ref 6 0 l.length ws.length)).map dv=_
   have:∀ (H:VHp),aget H 6=some (.row 3 1 false false (fillI l ws.length))→toD H (.ref 6 0 l.length ws.length)=some (rowI 0 l):=by
    intro H hH
    simp only[toD,hH]
    rw[if_pos (by omega),Nat.mul_one,List.drop_zero,fillI_take]
    rfl
   rw[this _ rfl]
   rfl
  change gC C (.drawW _ _ _) _ _ ⟨(6,.row 3 1 false true (fillI l ws.length))::(5,.row 9 1 false false (ws.map sD))::parH ls S N M,7,0⟩ _
  by_cases hz:N.length=0
  ·have hN0:=List.eq_nil_of_length_eq_zero hz
   have hM0:=List.eq_nil_of_length_eq_zero (hNM.trans hz)
   subst hN0 hM0
   repeat' (first|(simp (disch:=first|omega|assumption|exact bd (by with_unfolding_all rfl)|exact Or.inl rfl|exact Or.inl trivial|exact okL_map _ (fun _=>rfl) _|(simp only[VVlen]<;>omega)|fail) only[O1,VV0,VV1,VV2,VV3,VV4,VV5,VV6,VV7,VV8,VV9,mkFnV,vargs,slotsL,opdsA,Nat.reduceEqDiff,Nat.reduceLT,Nat.reduceAdd,Nat.reduceBEq,Int.reduceAdd,Int.reduceSub,Int.reduceLT,Int.reduceLE,Int.reduceEq,Int.reduceNeg,↓reduceIte,reduceCtorEq,scL,scD,expand,List.replicate,vd_app,dAppX_gr0,dAppX_gr,dAppN_ref,dAppNO_one,dApp_gr,dAppO_one,vrc_okA,vrc_okB,subL,sD_dv,List.length_nil])|apply gC_drawW|((first|apply gI_dec|apply gG_dec|apply gPG_dec|apply gI_var|apply gG_var|apply gPG_var)<;>intro _))
   all_goals try (exfalso;omega)
   exact hgo l hl _ _ (weak_toB [(10,4),(8,3),(2,2),(1,1),(0,0)] 5 (by rw[h0];exact Nat.zero_le _) rfl (by rw[h0];rfl) rfl rfl)
  ·have hzM:M.length ≠ 0:=by omega
   have hNl:(N.map sD).length=N.length:=by rw[List.length_map]
   have hMl:(M.map (rowI 0)).length=M.length:=by rw[List.length_map]
   repeat' (first|(simp (disch:=first|omega|assumption|exact bd (by with_unfolding_all rfl)|exact Or.inl rfl|exact Or.inl trivial|exact okL_map _ (fun _=>rfl) _|(simp only[VVlen]<;>omega)|fail) only[O1,VV0,VV1,VV2,VV3,VV4,VV5,VV6,VV7,VV8,VV9,mkFnV,vargs,slotsL,opdsA,Nat.reduceEqDiff,Nat.reduceLT,Nat.reduceAdd,Nat.reduceBEq,Int.reduceAdd,Int.reduceSub,Int.reduceLT,Int.reduceLE,Int.reduceEq,Int.reduceNeg,↓reduceIte,reduceCtorEq,scL,scD,expand,List.replicate,vd_app,dAppX_gr0,dAppX_gr,dAppN_ref,dAppNO_one,dApp_gr,dAppO_one,vrc_okA,vrc_okB,subL,sD_dv])|apply gC_drawW|((first|apply gI_dec|apply gG_dec|apply gPG_dec|apply gI_var|apply gG_var|apply gPG_var)<;>intro _))
   all_goals try (exfalso;omega)
   refine hgo l hl _ _ (weak_toB [(10,4),(8,3),(2,2),(1,1),(0,0)] 5 (by rw[h0];exact Nat.zero_le _) rfl (by rw[h0];rfl) rfl ?_)
   unfold parH
   rw[List.map_append,List.map_append,List.length_append,List.length_append,List.length_singleton,List.length_singleton]
   rfl
 ·exact hstop hno fr st h1 h2 h3 h4
end
end Go.Proofs.YteibgbbfcjgjiaaDoor
namespace Go.Proofs.YteibgbbfcjgjiaaDoor
open Go Go.Itp
set_option maxRecDepth 100000
set_option maxHeartbeats 2000000
set_option linter.unusedSimpArgs false
set_option linter.unusedVariables false
section
variable {C:Ctx} {st:VSt} {fr:VFr}
theorem same_fzK {o k n c t:Nat} {g:Bool} {l:List D} (ho:aget st.own o=some (.row t 1 g true l)) (hl:k+n≤l.length):VSame C st (.ref o k n c) (.sl 0 n ((l.drop k).take n)):=by
 intro s μ F u h1 hv
 have hs:snapV st.own (.ref o k n c)=some (.sl 0 n ((l.drop k).take n)):=by
  show (toD _ _).map dv=_
  simp only[toD,ho]
  rw[if_pos (by omega),Nat.mul_one]
  rfl
 refine snap_ok (w:=wof C st s μ F) (w1:=wof C st s μ F) h1.hr (VW.le.refl _) rfl rfl hv hs (fun j hj b e=>?_) (fun j hj b e k sp blk hb=>aload_blk (E:=C.E) hb)
 simp only[fzS,List.mem_singleton] at hj
 subst hj
 exact h1.fz j _ b ho e rfl
theorem weak_snapK {o g k0 n c t t' e k:Nat} {gg:Bool} {l:List V} {q:List D} (ho:aget st.own o=some (.box t e l)) (hk:l[k]? =some (.ref g k0 n c)) (hg:aget st.own g=some (.row t' 1 gg false q)) (hq:k0+n≤q.length) (hrow:rowsB st.ro st.own [g]=true):
  Weak C fr st fr ⟨aset (frozA [g] st.own) o (.box t e (l.set k (.sl 0 n ((q.drop k0).take n)))),st.next,st.ro⟩:=by
 have h1:aget (frozA [g] st.own) g=some (.row t' 1 gg true q):=by
  have:elemB g [g]=true:=(elemB_iff _ _).2 (by simp)
  rw[frozA_get,hg,Option.map_some,if_pos this]
  rfl
 have hog:o ≠ g:=fun h=>by rw[h,hg] at ho;cases ho
 have h2:aget (frozA [g] st.own) o=some (.box t e l):=by
  have:¬ elemB o [g]=true:=fun h=>hog (by simpa using (elemB_iff _ _).1 h)
  rw[frozA_get,ho,Option.map_some,if_neg this]
 refine (weak_freeze hrow).trans ?_
 exact weak_cell (st:=⟨frozA [g] st.own,st.next,st.ro⟩) h2 hk (same_fzK h1 hq)
end
section
variable (w:World) (n:Nat)
abbrev par0 (ls:List (List UInt8)):VHp:=
 [(4,.gro 40 1 false []),(3,.gro 9 1 false []),(2,.row 9 1 false false (ls.map sD)),(1,.box 25 1 [.sc (.slice none 0 0),.gr 2 3 0,.gr 2 4 0]),(0,.box 25 1 [.sc (.slice none 0 0),.sc (.slice none 0 0),.sc (.slice none 0 0)])]
theorem head_round {C:Ctx} (hC:C.E=EN w (n+7)) (h0:C.w0.nx=0) (s:List UInt8) (ls:List (List UInt8)) (hil:0<ls.length) (hls:ls.length≤10000) (X:List UInt8) (hX:ls[0]! =X) (hXl:X.length≤8000) (ws:List (List UInt8)) (hws:words 32 X=ws) (hw:0<ws.length) (hwl:ws.length≤10000) {P:VPost}
  (hgo:∀ fr st,Weak C fr st [(0,strV s),(2,.ptr 0 0),(4,.ptr 1 0),(21,.ref 2 0 ls.length ls.length),(22,.sc (.int .i64 ls.length)),(23,.sc (.int .i64 1))] ⟨parH ls ws.tail [] [],5,0⟩→P .normal fr st):
  gC C c12l1 [] [(0,strV s),(2,.ptr 0 0),(4,.ptr 1 0),(21,.ref 2 0 ls.length ls.length),(22,.sc (.int .i64 ls.length)),(23,.sc (.int .i64 0))] ⟨par0 ls,5,0⟩ P:=by
 have hlm:(ls.map sD).length=ls.length:=by rw[List.length_map]
 have hwm:(ws.map sD).length=ws.length:=by rw[List.length_map]
 have hX0:ls[Int.toNat 0]! =X:=hX
 have hsp:=split_p w (n+1) X 32 (by omega)
 rw[hws] at hsp
 repeat' (first|(simp (disch:=first|omega|assumption|exact bd (by with_unfolding_all rfl)|exact Or.inl rfl|exact Or.inl trivial|exact okL_map _ (fun _=>rfl) _|(simp only[VVlen]<;>omega)|fail) only[O1,VV0,VV1,VV2,VV3,VV4,VV5,VV6,VV7,VV8,VV9,mkFnV,vargs,slotsL,opdsA,Nat.reduceEqDiff,Nat.reduceLT,Nat.reduceAdd,Nat.reduceBEq,Int.reduceAdd,Int.reduceSub,Int.reduceLT,Int.reduceLE,Int.reduceEq,Int.reduceNeg,↓reduceIte,reduceCtorEq,scL,scD,expand,List.replicate,c12l1,sD_dv,hX,hX0])|apply gC_drawW|((first|apply gI_dec|apply gG_dec|apply gPG_dec|apply gI_var|apply gG_var|apply gPG_var)<;>intro _))
 all_goals try (exfalso;omega)
 refine callV_of (by rw[hC];exact hsp) rfl rfl rfl ?_
 repeat' (first|(simp (disch:=first|omega|assumption|exact bd (by with_unfolding_all rfl)|exact Or.inl rfl|exact Or.inl trivial|exact okL_map _ (fun _=>rfl) _|(simp only[VVlen]<;>omega)|fail) only[O1,VV0,VV1,VV2,VV3,VV4,VV5,VV6,VV7,VV8,VV9,mkFnV,vargs,slotsL,opdsA,Nat.reduceEqDiff,Nat.reduceLT,Nat.reduceAdd,Nat.reduceBEq,Int.reduceAdd,Int.reduceSub,Int.reduceLT,Int.reduceLE,Int.reduceEq,Int.reduceNeg,↓reduceIte,reduceCtorEq,scL,scD,expand,List.replicate,vsh,vshL,shH,shO,fzSL,fzS,vslc_loR,Nat.mul_one])|apply gC_drawW|((first|apply gI_dec|apply gG_dec|apply gPG_dec|apply gI_var|apply gG_var|apply gPG_var)<;>intro _))
 all_goals try (exfalso;omega)
 refine hgo _ _ ((weak_snapK (o:=1) (g:=5) (k:=0) rfl rfl rfl (by split<;>omega) rfl).trans (weak_toB [(4,4),(3,3),(2,2),(1,1),(0,0)] 5 (by rw[h0];exact Nat.zero_le _) rfl (by rw[h0];rfl) rfl ?_))
 have e:(List.drop (if ws.length=1 then 0 else 1) (ws.map sD)).take (ws.length - 1)=ws.tail.map sD:=by
  match ws,hw with
  | [a],_=>rfl
  |a::b::r,_=>simp;rw[List.take_of_length_le (by simp)]
 rw[e]
 show _=(⟨parH ls ws.tail [] [],5,0⟩:VSt)
 unfold parH strs
 rw[List.length_tail]
 rfl
theorem rowL_snoc (f:List UInt8→Option Int):∀ (a:List (List UInt8)) (N:List (List UInt8)) (M:List (List Int)) (r:List (List UInt8)),rowL f a=some (N,M)→rowL f (a++r)=(rowL f r).map (fun p=>(N++p.1,M++p.2))
 | [],N,M,r,h=>by
  simp only[rowL,Option.some.injEq,Prod.mk.injEq] at h
  obtain ⟨rfl,rfl⟩:=h
  simp
 |x::a,N,M,r,h=>by
  simp only[rowL,Option.bind_eq_some_iff,Option.map_eq_some_iff,Prod.mk.injEq] at h
  obtain ⟨l,h1,⟨N',M'⟩,h2,rfl,rfl⟩:=h
  simp only[List.cons_append,rowL,h1,Option.bind_some,rowL_snoc f a N' M' r h2]
  cases rowL f r<;>rfl
theorem rowL_len {f:List UInt8→Option Int}:∀ {a:List (List UInt8)} {N:List (List UInt8)} {M:List (List Int)},rowL f a=some (N,M)→N.length=a.length∧M.length=a.length
 | [],N,M,h=>by
  simp only[rowL,Option.some.injEq,Prod.mk.injEq] at h
  obtain ⟨rfl,rfl⟩:=h
  exact ⟨rfl,rfl⟩
 |x::a,N,M,h=>by
  simp only[rowL,Option.bind_eq_some_iff,Option.map_eq_some_iff,Prod.mk.injEq] at h
  obtain ⟨l,h1,⟨N',M'⟩,h2,rfl,rfl⟩:=h
  have:=rowL_len h2
  simp[this.1,this.2]
end
end Go.Proofs.YteibgbbfcjgjiaaDoor
namespace Go.Proofs.YteibgbbfcjgjiaaDoor
open Go Go.Itp
set_option maxRecDepth 100000
set_option maxHeartbeats 2000000
set_option linter.unusedSimpArgs false
set_option linter.unusedVariables false
section
variable (w:World) (n:Nat)
theorem lines_walk {C:Ctx} (hC:C.E=EN w (n+7)) (h0:C.w0.nx=0) (hes:(errO Tryd.prog w "strconv.ErrSyntax").isSome=true) (her:(errO Tryd.prog w "strconv.ErrRange").isSome=true) (s:List UInt8) (ls:List (List UInt8)) (hl0:0<ls.length) (hls:ls.length≤10000) (hll:∀ x ∈ ls,x.length≤8000) {K:List KF} {P:VPost}
  (hgo:∀ N M,rowL numA ls.tail=some (N,M)→gK C K (.exit 0) [(0,strV s),(2,.ptr 0 0),(4,.ptr 1 0),(21,.ref 2 0 ls.length ls.length),(22,.sc (.int .i64 ls.length)),(23,.sc (.int .i64 ls.length)),(24,.sc (.bool false))] ⟨parH ls (words 32 ls[0]!).tail N M,5,0⟩ P)
  (hstop:rowL numA ls.tail=none→∀ fr st,st.ro=0→aget st.own 0=some (.box 25 1 [.sc (.slice none 0 0),.sc (.slice none 0 0),.sc (.slice none 0 0)])→aget fr 2=some (.ptr 0 0)→aget fr 3=some (.sc (.int .i64 12))→gK C K .ret fr st P)
  {fr0:VFr} {st0:VSt} (hst:Weak C fr0 st0 [(0,strV s),(2,.ptr 0 0),(4,.ptr 1 0),(21,.ref 2 0 ls.length ls.length),(22,.sc (.int .i64 ls.length)),(23,.sc (.int .i64 0))] ⟨par0 ls,5,0⟩):
  gL C [0,2,4,21,22,23] c12l1 K fr0 st0 P:=by
 have hrn:C.E.rounds=many:=by rw[hC,callP_rounds]
 have htl:ls.tail.length=ls.length - 1:=by simp
 refine g_while (fun m fr st=>∃ k:Nat,m=ls.length - k∧k≤ls.length∧fr= [(0,strV s),(2,.ptr 0 0),(4,.ptr 1 0),(21,.ref 2 0 ls.length ls.length),(22,.sc (.int .i64 ls.length)),(23,.sc (.int .i64 (k:Int)))]∧
  ((k=0∧st=⟨par0 ls,5,0⟩)∨(0<k∧∃ N M,rowL numA (ls.tail.take (k - 1))=some (N,M)∧st=⟨parH ls (words 32 ls[0]!).tail N M,5,0⟩))) ls.length ?_ ⟨_,_,hst,0,by omega,Nat.zero_le _,rfl,.inl ⟨rfl,rfl⟩⟩ ?_
 ·rw[hrn];unfold many;omega
 rintro m fr st ⟨k,rfl,hk,rfl,hcase⟩
 have hwords:∀ x ∈ ls,0<(words 32 x).length∧(words 32 x).length≤10000∧∀ y ∈ words 32 x,y.length≤10000:=fun x hx=>by
  have hb:=hll x hx
  have hwl:=Go.Itp.words_len (c:=32) x.length (s:=x) (Nat.le_refl _)
  exact ⟨List.length_pos_iff.2 (words_ne 32 x),by omega,fun y hy=>by have:=hwl.2 y hy;omega⟩
 rcases hcase with ⟨rfl,rfl⟩|⟨hk0,N,M,hr,rfl⟩
 ·have hm:ls[0]! ∈ ls:=by rw[getElem!_pos ls 0 hl0];exact List.getElem_mem _
  obtain ⟨a1,a2,a3⟩:=hwords _ hm
  refine head_round w n hC h0 s ls hl0 hls _ rfl (hll _ hm) _ rfl a1 a2 fun fr st hw=>?_
  refine ⟨_,_,_,?_,hw,1,rfl,by omega,rfl,.inr ⟨by omega,[],[],rfl,rfl⟩⟩
  omega
 ·have hrl:=rowL_len hr
  rw[List.length_take,htl,Nat.min_eq_left (by omega)] at hrl
  by_cases hlt:k<ls.length
  case neg=>
   have:k=ls.length:=by omega
   subst this
   rw[List.take_of_length_le (by omega)] at hr
   have hgo:=hgo N M hr
   repeat' (first|(simp (disch:=first|omega|assumption|exact bd (by with_unfolding_all rfl)|exact Or.inl rfl|exact Or.inl trivial|exact okL_map _ (fun _=>rfl) _|(simp only[VVlen]<;>omega)|fail) only[O1,VV0,VV1,VV2,VV3,VV4,VV5,VV6,VV7,VV8,VV9,mkFnV,vargs,slotsL,opdsA,Nat.reduceEqDiff,Nat.reduceLT,Nat.reduceAdd,Nat.reduceBEq,Int.reduceAdd,Int.reduceSub,Int.reduceLT,Int.reduceLE,Int.reduceEq,Int.reduceNeg,↓reduceIte,reduceCtorEq,scL,scD,expand,List.replicate,c12l1])|apply gC_drawW|((first|apply gI_dec|apply gG_dec|apply gPG_dec|apply gI_var|apply gG_var|apply gPG_var)<;>intro _))
   all_goals try (exfalso;omega)
   all_goals exact hgo
  have hm:ls[k]! ∈ ls:=by rw[getElem!_pos ls k hlt];exact List.getElem_mem _
  obtain ⟨a1,a2,a3⟩:=hwords _ hm
  have hjw:ls.tail[k - 1]! =ls[k]! :=by
   rw[getElem!_pos _ (k - 1) (by omega),getElem!_pos ls k (by omega)]
   simp only[List.getElem_tail]
   congr 1
   omega
  have htk:ls.tail.take k=ls.tail.take (k - 1)++ [ls[k]!]:=by
   have:=List.take_succ_eq_append_getElem (l:=ls.tail) (i:=k - 1) (by omega)
   rw[show k - 1+1=k by omega] at this
   rw[this,← getElem!_pos ls.tail (k - 1) (by omega),hjw]
  have hsplit:ls.tail=ls.tail.take (k - 1)++(ls[k]! ::ls.tail.drop k):=by
   have:=List.drop_eq_getElem_cons (l:=ls.tail) (i:=k - 1) (by omega)
   rw[show k - 1+1=k by omega,← getElem!_pos ls.tail (k - 1) (by omega),hjw] at this
   rw[← this,List.take_append_drop]
  refine row_round w n hC h0 hes her s ls _ N M k hk0 hlt hls (by omega) (by omega) _ rfl (hll _ hm) _ rfl a1 a2 a3 (fun l hl fr st hw=>?_) (fun hno fr st h1 h2 h3 h4=>?_)
  ·refine ⟨_,_,_,?_,hw,k+1,rfl,by omega,rfl,.inr ⟨by omega,N++ [(words 32 ls[k]!)[0]!],M++ [l],?_,rfl⟩⟩
   ·omega
   ·rw[Nat.add_sub_cancel,htk,rowL_snoc _ _ _ _ _ hr,rowL,hl]
    rfl
  ·refine hstop ?_ fr st h1 h2 h3 h4
   rw[hsplit,rowL_snoc _ _ _ _ _ hr,rowL,hno]
   rfl
end
end Go.Proofs.YteibgbbfcjgjiaaDoor
namespace Go.Proofs.YteibgbbfcjgjiaaDoor
open Go Go.Itp
set_option maxRecDepth 100000
set_option maxHeartbeats 2000000
set_option linter.unusedSimpArgs false
set_option linter.unusedVariables false
theorem rowL_mod {f:List UInt8→Option Int} (B:Nat):∀ {a:List (List UInt8)} {N:List (List UInt8)} {M:List (List Int)},(∀ x ∈ a,x.length≤B)→rowL f a=some (N,M)→(∀ y ∈ N,y.length≤B)∧∀ m ∈ M,m.length≤B
 | [],N,M,_,h=>by
  simp only[rowL,Option.some.injEq,Prod.mk.injEq] at h
  obtain ⟨rfl,rfl⟩:=h
  exact ⟨fun y hy=>(by cases hy),fun m hm=>(by cases hm)⟩
 |x::a,N,M,hB,h=>by
  simp only[rowL,Option.bind_eq_some_iff,Option.map_eq_some_iff,Prod.mk.injEq] at h
  obtain ⟨l,h1,⟨N',M'⟩,h2,rfl,rfl⟩:=h
  have ih:=rowL_mod B (fun y hy=>hB y (List.mem_cons_of_mem _ hy)) h2
  have hx:=Go.Itp.words_len (c:=32) x.length (s:=x) (Nat.le_refl _)
  have hxB:=hB x List.mem_cons_self
  have hne:=List.length_pos_iff.2 (words_ne 32 x)
  have hl:=allN_len h1
  rw[List.length_tail] at hl
  constructor
  ·intro y hy
   rcases List.mem_cons.1 hy with rfl|hy
   ·rw[getElem!_pos _ 0 hne]
    have:=hx.2 _ (List.getElem_mem hne)
    omega
   ·exact ih.1 y hy
  ·intro m hm
   rcases List.mem_cons.1 hm with rfl|hm
   ·omega
   ·exact ih.2 m hm
section
variable (w:World) (n:Nat)
theorem parse_walk {C:Ctx} (hC:C.E=EN w (n+7)) (h0:C.w0.nx=0) (hes:(errO Tryd.prog w "strconv.ErrSyntax").isSome=true) (her:(errO Tryd.prog w "strconv.ErrRange").isSome=true) (s:List UInt8) (hs:s.length≤100000) {P:VPost}
  (hno:accF (rawP s) s=none→∀ fr st,st.ro=0→aget st.own 0=some (.box 25 1 [.sc (.slice none 0 0),.sc (.slice none 0 0),.sc (.slice none 0 0)])→aget fr 2=some (.ptr 0 0)→aget fr 3=some (.sc (.int .i64 12))→P .ret fr st)
  (hyes:∀ S N M,accF (rawP s) s=some (S,N,M)→∀ fr st,st.ro=0→aget st.own 0=some (.box 25 1 [strs 0 S,.gr 2 3 N.length,.gr 2 4 M.length])→aget st.own 3=some (.gro 9 1 false (N.map sD))→aget st.own 4=some (.gro 40 1 false (M.map (rowI 0)))→aget fr 2=some (.ptr 0 0)→aget fr 3=some (.sc (.int .i64 0))→P .ret fr st):
  gC C c12.code [] [(0,strV s)] ⟨[],0,0⟩ P:=by
 have hsz:(⟨s.toArray⟩:ByteArray).size=s.length:=by simp[ByteArray.size]
 by_cases hbig:8000<s.length
 ·have ha:accF (rawP s) s=none:=by
   have hb:¬ s.length≤8000:=by omega
   unfold accF
   cases rawP s<;>simp[hb]
  repeat' (first|(simp (disch:=first|omega|assumption|exact bd (by with_unfolding_all rfl)|exact Or.inl rfl|exact Or.inl trivial|exact okL_map _ (fun _=>rfl) _|(simp only[VVlen]<;>omega)|fail) only[O1,VV0,VV1,VV2,VV3,VV4,VV5,VV6,VV7,VV8,VV9,mkFnV,vargs,slotsL,opdsA,Nat.reduceEqDiff,Nat.reduceLT,Nat.reduceAdd,Nat.reduceBEq,Int.reduceAdd,Int.reduceSub,Int.reduceLT,Int.reduceLE,Int.reduceEq,Int.reduceNeg,↓reduceIte,reduceCtorEq,scL,scD,expand,List.replicate,c12,hsz])|apply gC_drawW|((first|apply gI_dec|apply gG_dec|apply gPG_dec|apply gI_var|apply gG_var|apply gPG_var)<;>intro _))
  all_goals try (exfalso;omega)
  exact hno ha _ _ rfl rfl rfl rfl
 have htr:=(trim_p w (n+4) s (by omega)).of hC rfl
 have htl:(trimS s).length≤8000:=by unfold trimS;split<;>(try simp)<;>omega
 have hsp:=split_p w (n+1) (trimS s) 10 (by omega)
 have hwl:=Go.Itp.words_len (c:=10) (trimS s).length (s:=trimS s) (Nat.le_refl _)
 have hw0:=List.length_pos_iff.2 (words_ne 10 (trimS s))
 have hraw:rawP s=(rowL numA (words 10 (trimS s)).tail).map fun p=>((words 32 (words 10 (trimS s))[0]!).tail,p.1,p.2):=rfl
 generalize words 10 (trimS s)=ls at*
 repeat' (first|(simp (disch:=first|omega|assumption|exact bd (by with_unfolding_all rfl)|exact Or.inl rfl|exact Or.inl trivial|exact okL_map _ (fun _=>rfl) _|(simp only[VVlen]<;>omega)|fail) only[O1,VV0,VV1,VV2,VV3,VV4,VV5,VV6,VV7,VV8,VV9,mkFnV,vargs,slotsL,opdsA,Nat.reduceEqDiff,Nat.reduceLT,Nat.reduceAdd,Nat.reduceBEq,Int.reduceAdd,Int.reduceSub,Int.reduceLT,Int.reduceLE,Int.reduceEq,Int.reduceNeg,↓reduceIte,reduceCtorEq,scL,scD,expand,List.replicate,c12,hsz])|apply gC_drawW|((first|apply gI_dec|apply gG_dec|apply gPG_dec|apply gI_var|apply gG_var|apply gPG_var)<;>intro _))
 all_goals try (exfalso;omega)
 refine callV_flat (htr _ rfl) ?_
 repeat' (first|(simp (disch:=first|omega|assumption|exact bd (by with_unfolding_all rfl)|exact Or.inl rfl|exact Or.inl trivial|exact okL_map _ (fun _=>rfl) _|(simp only[VVlen]<;>omega)|fail) only[O1,VV0,VV1,VV2,VV3,VV4,VV5,VV6,VV7,VV8,VV9,mkFnV,vargs,slotsL,opdsA,Nat.reduceEqDiff,Nat.reduceLT,Nat.reduceAdd,Nat.reduceBEq,Int.reduceAdd,Int.reduceSub,Int.reduceLT,Int.reduceLE,Int.reduceEq,Int.reduceNeg,↓reduceIte,reduceCtorEq,scL,scD,expand,List.replicate])|apply gC_drawW|((first|apply gI_dec|apply gG_dec|apply gPG_dec|apply gI_var|apply gG_var|apply gPG_var)<;>intro _))
 refine callV_of (by rw[hC];exact hsp) rfl rfl rfl ?_
 repeat' (first|(simp (disch:=first|omega|assumption|exact bd (by with_unfolding_all rfl)|exact Or.inl rfl|exact Or.inl trivial|exact okL_map _ (fun _=>rfl) _|(simp only[VVlen]<;>omega)|fail) only[O1,VV0,VV1,VV2,VV3,VV4,VV5,VV6,VV7,VV8,VV9,mkFnV,vargs,slotsL,opdsA,Nat.reduceEqDiff,Nat.reduceLT,Nat.reduceAdd,Nat.reduceBEq,Int.reduceAdd,Int.reduceSub,Int.reduceLT,Int.reduceLE,Int.reduceEq,Int.reduceNeg,↓reduceIte,reduceCtorEq,scL,scD,expand,List.replicate,vsh,vshL,shH,shO,fzSL,fzS])|apply gC_drawW|((first|apply gI_dec|apply gG_dec|apply gPG_dec|apply gI_var|apply gG_var|apply gPG_var)<;>intro _))
 all_goals try (exfalso;omega)
 have hst:∀ fr:VFr,Weak C fr ⟨[(2,.row 9 1 false false (ls.map sD)),(1,.box 25 1 [.sc (.slice none 0 0),.sc (.slice none 0 0),.sc (.slice none 0 0)]),(0,.box 25 1 [.sc (.slice none 0 0),.sc (.slice none 0 0),.sc (.slice none 0 0)])],3,0⟩ fr ⟨par0 ls,5,0⟩:=fun fr=>
  have h1:Weak C fr ⟨[(2,.row 9 1 false false (ls.map sD)),(1,.box 25 1 [.sc (.slice none 0 0),.sc (.slice none 0 0),.sc (.slice none 0 0)]),(0,.box 25 1 [.sc (.slice none 0 0),.sc (.slice none 0 0),.sc (.slice none 0 0)])],3,0⟩ fr ⟨[(3,.gro 9 1 false []),(2,.row 9 1 false false (ls.map sD)),(1,.box 25 1 [.sc (.slice none 0 0),.gr 2 3 0,.sc (.slice none 0 0)]),(0,.box 25 1 [.sc (.slice none 0 0),.sc (.slice none 0 0),.sc (.slice none 0 0)])],4,0⟩:=weak_nilCell (l:= [.sc (.slice none 0 0),.sc (.slice none 0 0),.sc (.slice none 0 0)]) 1 25 1 1 9 1 rfl rfl (show (1:Nat) ≠ 3 from by decide)
  have h2:Weak C fr ⟨[(3,.gro 9 1 false []),(2,.row 9 1 false false (ls.map sD)),(1,.box 25 1 [.sc (.slice none 0 0),.gr 2 3 0,.sc (.slice none 0 0)]),(0,.box 25 1 [.sc (.slice none 0 0),.sc (.slice none 0 0),.sc (.slice none 0 0)])],4,0⟩ fr ⟨[(4,.gro 40 1 false []),(3,.gro 9 1 false []),(2,.row 9 1 false false (ls.map sD)),(1,.box 25 1 [.sc (.slice none 0 0),.gr 2 3 0,.gr 2 4 0]),(0,.box 25 1 [.sc (.slice none 0 0),.sc (.slice none 0 0),.sc (.slice none 0 0)])],5,0⟩:=weak_nilCell (st:=⟨[(3,.gro 9 1 false []),(2,.row 9 1 false false (ls.map sD)),(1,.box 25 1 [.sc (.slice none 0 0),.gr 2 3 0,.sc (.slice none 0 0)]),(0,.box 25 1 [.sc (.slice none 0 0),.sc (.slice none 0 0),.sc (.slice none 0 0)])],4,0⟩) (l:= [.sc (.slice none 0 0),.gr 2 3 0,.sc (.slice none 0 0)]) 1 25 1 2 40 1 rfl rfl (show (1:Nat) ≠ 4 from by decide)
  h1.trans h2
 refine lines_walk w n hC h0 hes her s ls hw0 (by omega) (fun x hx=>by have:=hwl.2 x hx;omega) (fun N M hr=>?_) (fun hr fr st h1 h2 h3 h4=>?_) (hst _)
 ·rw[hr,Option.map_some] at hraw
  have hmod:Mod (words 32 ls[0]!).tail N M:=by
   have hlb:∀ x ∈ ls,x.length≤8000:=fun x hx=>by have:=hwl.2 x hx;omega
   have hb:=rowL_mod 8000 (fun x hx=>hlb x (List.mem_of_mem_tail hx)) hr
   have hm:ls[0]! ∈ ls:=by rw[getElem!_pos ls 0 hw0];exact List.getElem_mem _
   have hx:=Go.Itp.words_len (c:=32) (ls[0]!).length (s:=ls[0]!) (Nat.le_refl _)
   have hx0:=hlb _ hm
   have hrl:=rowL_len hr
   rw[List.length_tail] at hrl
   refine ⟨by rw[List.length_tail];omega,by omega,by omega,fun j hj=>?_,fun j hj=>?_,fun j hj=>?_⟩
   ·rw[getElem!_pos _ j hj]
    have:=hx.2 _ (List.mem_of_mem_tail (List.getElem_mem hj))
    omega
   ·rw[getElem!_pos _ j hj]
    have:=hb.1 _ (List.getElem_mem hj)
    omega
   ·rw[getElem!_pos _ j hj]
    have:=hb.2 _ (List.getElem_mem hj)
    omega
  generalize (words 32 ls[0]!).tail=S at*
  have htx:∀ (st:VSt) (xs:List V),snapL st.own xs=some [tableV 0 2 2 0 S N M]→VSpecO C.E 10 st xs (.tup [strV (textF (S,N,M)).1,.sc (.int .i64 (textF (S,N,M)).2)]):=fun st xs h=>by rw[hC];exact (textB_p w (n+2) 0 2 2 0 (by decide) (S,N,M) hmod).flat rfl h
  have hsn:snapL (parH ls S N M) [.agg [strs 0 S,.gr 2 3 N.length,.gr 2 4 M.length]]=some [tableV 0 2 2 0 S N M]:=by
   have e3:snapV (parH ls S N M) (.gr 2 3 N.length)=some (strs 2 N):=snap_grD (t:=9) (z:=false) rfl (by simp)
   have e4:snapV (parH ls S N M) (.gr 2 4 M.length)=some (rowsV 2 0 M):=snap_grD (t:=40) (z:=false) rfl (by simp)
   simp only[snapL,snapV] at e3 e4 ⊢
   simp only[e3,e4,Option.bind_some,Option.map_some]
  repeat' (first|(simp (disch:=first|omega|assumption|exact bd (by with_unfolding_all rfl)|exact Or.inl rfl|exact Or.inl trivial|exact okL_map _ (fun _=>rfl) _|(simp only[VVlen]<;>omega)|fail) only[O1,VV0,VV1,VV2,VV3,VV4,VV5,VV6,VV7,VV8,VV9,mkFnV,vargs,slotsL,opdsA,Nat.reduceEqDiff,Nat.reduceLT,Nat.reduceAdd,Nat.reduceBEq,Int.reduceAdd,Int.reduceSub,Int.reduceLT,Int.reduceLE,Int.reduceEq,Int.reduceNeg,↓reduceIte,reduceCtorEq,scL,scD,expand,List.replicate])|apply gC_drawW|((first|apply gI_dec|apply gG_dec|apply gPG_dec|apply gI_var|apply gG_var|apply gPG_var)<;>intro _))
  refine callV_flat (htx _ _ hsn) ?_
  by_cases hz:(textF (S,N,M)).2=0
  ·by_cases ht:(textF (S,N,M)).1=s
   ·have hacc:accF (rawP s) s=some (S,N,M):=by
     unfold accF
     rw[hraw,Option.bind_some,if_pos ⟨by omega,Prod.ext ht hz⟩]
    have hy:=hyes S N M hacc
    repeat' (first|(simp (disch:=first|omega|assumption|exact bd (by with_unfolding_all rfl)|exact Or.inl rfl|exact Or.inl trivial|exact okL_map _ (fun _=>rfl) _|(simp only[VVlen]<;>omega)|fail) only[O1,VV0,VV1,VV2,VV3,VV4,VV5,VV6,VV7,VV8,VV9,mkFnV,vargs,slotsL,opdsA,Nat.reduceEqDiff,Nat.reduceLT,Nat.reduceAdd,Nat.reduceBEq,Int.reduceAdd,Int.reduceSub,Int.reduceLT,Int.reduceLE,Int.reduceEq,Int.reduceNeg,↓reduceIte,reduceCtorEq,scL,scD,expand,List.replicate,hz,ht])|apply gC_drawW|((first|apply gI_dec|apply gG_dec|apply gPG_dec|apply gI_var|apply gG_var|apply gPG_var)<;>intro _))
    all_goals try (exfalso;omega)
    all_goals exact hy _ _ rfl rfl rfl rfl rfl rfl
   ·have hacc:accF (rawP s) s=none:=by
     unfold accF
     rw[hraw,Option.bind_some,if_neg (fun h=>ht (by rw[h.2]))]
    have hn:=hno hacc
    repeat' (first|(simp (disch:=first|omega|assumption|exact bd (by with_unfolding_all rfl)|exact Or.inl rfl|exact Or.inl trivial|exact okL_map _ (fun _=>rfl) _|(simp only[VVlen]<;>omega)|fail) only[O1,VV0,VV1,VV2,VV3,VV4,VV5,VV6,VV7,VV8,VV9,mkFnV,vargs,slotsL,opdsA,Nat.reduceEqDiff,Nat.reduceLT,Nat.reduceAdd,Nat.reduceBEq,Int.reduceAdd,Int.reduceSub,Int.reduceLT,Int.reduceLE,Int.reduceEq,Int.reduceNeg,↓reduceIte,reduceCtorEq,scL,scD,expand,List.replicate,hz,ht])|apply gC_drawW|((first|apply gI_dec|apply gG_dec|apply gPG_dec|apply gI_var|apply gG_var|apply gPG_var)<;>intro _))
    all_goals try (exfalso;omega)
    all_goals try exact hn _ _ rfl rfl rfl rfl
    all_goals
     rename_i hh
     exact absurd (by have:=congrArg (fun b:ByteArray=>b.data.toList) (Classical.not_not.1 hh);simpa using this) ht
  ·have hacc:accF (rawP s) s=none:=by
    unfold accF
    rw[hraw,Option.bind_some,if_neg (fun h=>hz (by rw[h.2]))]
   have hn:=hno hacc
   repeat' (first|(simp (disch:=first|omega|assumption|exact bd (by with_unfolding_all rfl)|exact Or.inl rfl|exact Or.inl trivial|exact okL_map _ (fun _=>rfl) _|(simp only[VVlen]<;>omega)|fail) only[O1,VV0,VV1,VV2,VV3,VV4,VV5,VV6,VV7,VV8,VV9,mkFnV,vargs,slotsL,opdsA,Nat.reduceEqDiff,Nat.reduceLT,Nat.reduceAdd,Nat.reduceBEq,Int.reduceAdd,Int.reduceSub,Int.reduceLT,Int.reduceLE,Int.reduceEq,Int.reduceNeg,↓reduceIte,reduceCtorEq,scL,scD,expand,List.replicate,hz])|apply gC_drawW|((first|apply gI_dec|apply gG_dec|apply gPG_dec|apply gI_var|apply gG_var|apply gPG_var)<;>intro _))
   all_goals try (exfalso;omega)
   all_goals exact hn _ _ rfl rfl rfl rfl
 ·refine hno ?_ fr st h1 h2 h3 h4
  rw[hraw,hr]
  rfl
end
end Go.Proofs.YteibgbbfcjgjiaaDoor
namespace Go.Proofs.YteibgbbfcjgjiaaDoor
open Go Go.Itp
set_option maxRecDepth 100000
set_option maxHeartbeats 2000000
set_option linter.unusedSimpArgs false
set_option linter.unusedVariables false
def parseV:Option Tb→V
 |some t=> .tup [tableV 0 2 2 0 t.1 t.2.1 t.2.2,.sc (.int .i64 0)]
 |none=> .tup [.agg [.sc (.slice none 0 0),.sc (.slice none 0 0),.sc (.slice none 0 0)],.sc (.int .i64 12)]
theorem retOK_parse (r:Option Tb):RetOK [] (parseV r):=by
 cases r with
 |none=>exact retOK_nil (by simp only[parseV,Cl,ClL,and_true])
 |some t=>exact retOK_nil (by simp only[parseV,Cl,ClL,and_true];exact ⟨rfl,rfl,rfl⟩)
section
variable (w:World) (n:Nat)
theorem parse_p (hes:(errO Tryd.prog w "strconv.ErrSyntax").isSome=true) (her:(errO Tryd.prog w "strconv.ErrRange").isSome=true) (s:List UInt8) (hs:s.length≤100000):VSpec (EN w (n+8)) 12 [strV s] (parseV (accF (rawP s) s)) ⟨[],0,0⟩:=by
 refine vspec_g rfl rfl (fun _ _=>rfl) (Nat.le_of_ble_eq_true rfl) (oldVals w) (retOK_parse _) rfl fun C hC h0=>?_
 refine parse_walk w n hC h0 hes her s hs (fun ha fr st hro h1 h2 h3=>?_) (fun S N M ha fr st hro h1 h3 h4 h5 h6=>?_)
 ·rw[ha]
  have hv:vresOf C fr st [(2,some (some 3)),(3,none)]=some [.agg [.sc (.slice none 0 0),.sc (.slice none 0 0),.sc (.slice none 0 0)],.sc (.int .i64 12)]:=by
   simp only[vresOf,h2,h3,Option.bind_some,vload,h1]
   rfl
  exact ⟨_,hv,weak_to [] 0 h0 hro rfl rfl rfl⟩
 ·rw[ha]
  have hv:vresOf C fr st [(2,some (some 3)),(3,none)]=some [.agg [strs 0 S,.gr 2 3 N.length,.gr 2 4 M.length],.sc (.int .i64 0)]:=by
   simp only[vresOf,h5,h6,Option.bind_some,vload,h1]
   rfl
  have e3:snapV st.own (.gr 2 3 N.length)=some (strs 2 N):=snap_grD h3 (by simp)
  have e4:snapV st.own (.gr 2 4 M.length)=some (rowsV 2 0 M):=snap_grD h4 (by simp)
  have hsn:snapV st.own (.tup [.agg [strs 0 S,.gr 2 3 N.length,.gr 2 4 M.length],.sc (.int .i64 0)])=some (parseV (some (S,N,M))):=by
   simp only[snapL,snapV] at e3 e4 ⊢
   simp only[e3,e4,Option.bind_some,Option.map_some]
   rfl
  refine ⟨_,hv,(weak_snap (t:=0) rfl hsn ?_).trans (weak_to [] 0 h0 hro rfl rfl rfl)⟩
  show rowsB st.ro st.own [3,4]=true
  simp[rowsB,h3,h4,hro]
end
end Go.Proofs.YteibgbbfcjgjiaaDoor
namespace Go.Proofs.YteibgbbfcjgjiaaDoor
open Go Go.Itp
set_option maxRecDepth 100000
set_option maxHeartbeats 2000000
set_option linter.unusedSimpArgs false
set_option linter.unusedVariables false
theorem callV_fin {C:Ctx} {st:VSt} {f:FuncId} {xs:List V} {v:V} {Q:V→VSt→Prop} (h:VSpec C.E f xs v ⟨[],0,0⟩) (hs:snapL st.own xs=some xs) (hz:fzSL xs= []) (hv:∀ k,vsh k v=v) (hq:Q v st):CallV C f xs st Q:=by
 refine callV_of h hs (by rw[hz];rfl) rfl ?_
 rw[hz,hv,frozA_none]
 exact hq
theorem mod_great {S N:List (List UInt8)} {M:List (List Int)} (h:greatS S N M=false):Mod S N M:=by
 have h:=of_decide_eq_false h
 refine ⟨by omega,by omega,by omega,fun j hj=>?_,fun j hj=>?_,fun j hj=>?_⟩
 ·have:¬ 60<S[j]!.length:=fun hh=>h (.inr (.inr (.inr (.inl ⟨j,hj,hh⟩))))
  omega
 ·have:¬ 60<N[j]!.length:=fun hh=>h (.inr (.inr (.inr (.inr (.inl ⟨j,hj,hh⟩)))))
  omega
 ·have:¬ 40<M[j]!.length:=fun hh=>h (.inr (.inr (.inr (.inr (.inr ⟨j,hj,hh⟩)))))
  omega
theorem accF_text {t:Tb} {s:List UInt8} (h:textF t=(s,0)):accF (rawP s) s=some t:=by
 have hb:=(raw_back (fun v hv=>numR_itoa v hv) h).1
 unfold accF
 rw[hb,Option.bind_some,if_pos ⟨(textF_good h).2.2,h⟩]
theorem accF_some {raw:Option Tb} {s:List UInt8} {t:Tb} (h:accF raw s=some t):textF t=(s,0):=by
 unfold accF at h
 cases raw with
 |none=>cases h
 |some u=>
  rw[Option.bind_some] at h
  split at h
  ·rename_i h1;cases h;exact h1.2
  ·cases h
theorem textF_e {t:Tb} (h:(textF t).2=0):textF t=((textF t).1,0):=by
 rw[← h]
theorem gback_walk (w:World) {C:Ctx} (hC:C.E=EN w 8) (h0:C.w0.nx=0) (S N:List (List UInt8)) (M:List (List Int)) (s:List UInt8) (hsl:s.length≤10000) (T:List UInt8 × Int) (r:Option Tb)
  (hal:∀ st,VSpecO (EN w 8) 15 st [] (.sc (.bool true)))
  (hg:VSpec (EN w 8) 9 [tableV 3 3 3 1 S N M] (.sc (.bool false)) ⟨[],0,0⟩)
  (pt:VSpec (EN w 8) 10 [tableV 3 3 3 1 S N M] (.tup [strV T.1,.sc (.int .i64 T.2)]) ⟨[],0,0⟩)
  (pp:T.2=0→VSpec (EN w 8) 12 [strV T.1] (parseV (some (S,N,M))) ⟨[],0,0⟩)
  (ps:VSpec (EN w 8) 14 [tableV 0 2 2 0 S N M,tableV 3 3 3 1 S N M] (.sc (.bool true)) ⟨[],0,0⟩)
  (p2:VSpec (EN w 8) 12 [strV s] (parseV r) ⟨[],0,0⟩)
  (p3:∀ t,r=some t→VSpec (EN w 8) 10 [tableV 0 2 2 0 t.1 t.2.1 t.2.2] (.tup [strV s,.sc (.int .i64 0)]) ⟨[],0,0⟩):
  gC C c5.code [] (vargs 0 [tableV 3 3 3 1 S N M,strV s]) ⟨[],0,0⟩ (RetV C c5.res (.sc (.bool true)) ⟨[],0,0⟩):=by
 have hsz:=mk_size s
 repeat' (first|(simp (disch:=first|omega|assumption|exact bd (by with_unfolding_all rfl)|exact Or.inl rfl|exact Or.inl trivial|exact okL_map _ (fun _=>rfl) _|(simp only[VVlen]<;>omega)|fail) only[O1,VV0,VV1,VV2,VV3,VV4,VV5,VV6,VV7,VV8,VV9,mkFnV,vargs,slotsL,opdsA,Nat.reduceEqDiff,Nat.reduceLT,Nat.reduceAdd,Nat.reduceBEq,Int.reduceAdd,Int.reduceSub,Int.reduceLT,Int.reduceLE,Int.reduceEq,Int.reduceNeg,↓reduceIte,reduceCtorEq,scL,scD,expand,List.replicate,c5])|apply gC_drawW|((first|apply gI_dec|apply gG_dec|apply gPG_dec|apply gI_var|apply gG_var|apply gPG_var)<;>intro _))
 refine callV_flat (by rw[hC];exact hal _) ?_
 repeat' (first|(simp (disch:=first|omega|assumption|exact bd (by with_unfolding_all rfl)|exact Or.inl rfl|exact Or.inl trivial|exact okL_map _ (fun _=>rfl) _|(simp only[VVlen]<;>omega)|fail) only[O1,VV0,VV1,VV2,VV3,VV4,VV5,VV6,VV7,VV8,VV9,mkFnV,vargs,slotsL,opdsA,Nat.reduceEqDiff,Nat.reduceLT,Nat.reduceAdd,Nat.reduceBEq,Int.reduceAdd,Int.reduceSub,Int.reduceLT,Int.reduceLE,Int.reduceEq,Int.reduceNeg,↓reduceIte,reduceCtorEq,scL,scD,expand,List.replicate])|apply gC_drawW|((first|apply gI_dec|apply gG_dec|apply gPG_dec|apply gI_var|apply gG_var|apply gPG_var)<;>intro _))
 refine callV_flat (by rw[hC];exact hg.flat rfl rfl) ?_
 repeat' (first|(simp (disch:=first|omega|assumption|exact bd (by with_unfolding_all rfl)|exact Or.inl rfl|exact Or.inl trivial|exact okL_map _ (fun _=>rfl) _|(simp only[VVlen]<;>omega)|fail) only[O1,VV0,VV1,VV2,VV3,VV4,VV5,VV6,VV7,VV8,VV9,mkFnV,vargs,slotsL,opdsA,Nat.reduceEqDiff,Nat.reduceLT,Nat.reduceAdd,Nat.reduceBEq,Int.reduceAdd,Int.reduceSub,Int.reduceLT,Int.reduceLE,Int.reduceEq,Int.reduceNeg,↓reduceIte,reduceCtorEq,scL,scD,expand,List.replicate])|apply gC_drawW|((first|apply gI_dec|apply gG_dec|apply gPG_dec|apply gI_var|apply gG_var|apply gPG_var)<;>intro _))
 all_goals try (exfalso;omega)
 refine callV_flat (by rw[hC];exact pt.flat rfl rfl) ?_
 by_cases he:T.2=0
 ·have pp:=pp he
  repeat' (first|(simp (disch:=first|omega|assumption|exact bd (by with_unfolding_all rfl)|exact Or.inl rfl|exact Or.inl trivial|exact okL_map _ (fun _=>rfl) _|(simp only[VVlen]<;>omega)|fail) only[O1,VV0,VV1,VV2,VV3,VV4,VV5,VV6,VV7,VV8,VV9,mkFnV,vargs,slotsL,opdsA,Nat.reduceEqDiff,Nat.reduceLT,Nat.reduceAdd,Nat.reduceBEq,Int.reduceAdd,Int.reduceSub,Int.reduceLT,Int.reduceLE,Int.reduceEq,Int.reduceNeg,↓reduceIte,reduceCtorEq,scL,scD,expand,List.replicate])|apply gC_drawW|((first|apply gI_dec|apply gG_dec|apply gPG_dec|apply gI_var|apply gG_var|apply gPG_var)<;>intro _))
  all_goals try (exfalso;omega)
  refine callV_fin (by rw[hC];exact pp) rfl rfl (fun _=>rfl) ?_
  repeat' (first|(simp (disch:=first|omega|assumption|exact bd (by with_unfolding_all rfl)|exact Or.inl rfl|exact Or.inl trivial|exact okL_map _ (fun _=>rfl) _|(simp only[VVlen]<;>omega)|fail) only[O1,VV0,VV1,VV2,VV3,VV4,VV5,VV6,VV7,VV8,VV9,mkFnV,vargs,slotsL,opdsA,Nat.reduceEqDiff,Nat.reduceLT,Nat.reduceAdd,Nat.reduceBEq,Int.reduceAdd,Int.reduceSub,Int.reduceLT,Int.reduceLE,Int.reduceEq,Int.reduceNeg,↓reduceIte,reduceCtorEq,scL,scD,expand,List.replicate,parseV])|apply gC_drawW|((first|apply gI_dec|apply gG_dec|apply gPG_dec|apply gI_var|apply gG_var|apply gPG_var)<;>intro _))
  refine callV_flat (by rw[hC];exact ps.flat rfl rfl) ?_
  repeat' (first|(simp (disch:=first|omega|assumption|exact bd (by with_unfolding_all rfl)|exact Or.inl rfl|exact Or.inl trivial|exact okL_map _ (fun _=>rfl) _|(simp only[VVlen]<;>omega)|fail) only[O1,VV0,VV1,VV2,VV3,VV4,VV5,VV6,VV7,VV8,VV9,mkFnV,vargs,slotsL,opdsA,Nat.reduceEqDiff,Nat.reduceLT,Nat.reduceAdd,Nat.reduceBEq,Int.reduceAdd,Int.reduceSub,Int.reduceLT,Int.reduceLE,Int.reduceEq,Int.reduceNeg,↓reduceIte,reduceCtorEq,scL,scD,expand,List.replicate])|apply gC_drawW|((first|apply gI_dec|apply gG_dec|apply gPG_dec|apply gI_var|apply gG_var|apply gPG_var)<;>intro _))
  cases hr:r with
  |none=>
   rw[hr] at p2
   refine callV_fin (by rw[hC];exact p2) rfl rfl (fun _=>rfl) ?_
   repeat' (first|(simp (disch:=first|omega|assumption|exact bd (by with_unfolding_all rfl)|exact Or.inl rfl|exact Or.inl trivial|exact okL_map _ (fun _=>rfl) _|(simp only[VVlen]<;>omega)|fail) only[O1,VV0,VV1,VV2,VV3,VV4,VV5,VV6,VV7,VV8,VV9,mkFnV,vargs,slotsL,opdsA,Nat.reduceEqDiff,Nat.reduceLT,Nat.reduceAdd,Nat.reduceBEq,Int.reduceAdd,Int.reduceSub,Int.reduceLT,Int.reduceLE,Int.reduceEq,Int.reduceNeg,↓reduceIte,reduceCtorEq,scL,scD,expand,List.replicate,parseV])|apply gC_drawW|((first|apply gI_dec|apply gG_dec|apply gPG_dec|apply gI_var|apply gG_var|apply gPG_var)<;>intro _))
   exact weak_flat rfl h0 rfl
  |some t=>
   have p3:=p3 t hr
   rw[hr] at p2
   refine callV_fin (by rw[hC];exact p2) rfl rfl (fun _=>rfl) ?_
   repeat' (first|(simp (disch:=first|omega|assumption|exact bd (by with_unfolding_all rfl)|exact Or.inl rfl|exact Or.inl trivial|exact okL_map _ (fun _=>rfl) _|(simp only[VVlen]<;>omega)|fail) only[O1,VV0,VV1,VV2,VV3,VV4,VV5,VV6,VV7,VV8,VV9,mkFnV,vargs,slotsL,opdsA,Nat.reduceEqDiff,Nat.reduceLT,Nat.reduceAdd,Nat.reduceBEq,Int.reduceAdd,Int.reduceSub,Int.reduceLT,Int.reduceLE,Int.reduceEq,Int.reduceNeg,↓reduceIte,reduceCtorEq,scL,scD,expand,List.replicate,parseV])|apply gC_drawW|((first|apply gI_dec|apply gG_dec|apply gPG_dec|apply gI_var|apply gG_var|apply gPG_var)<;>intro _))
   refine callV_flat (by rw[hC];exact p3.flat rfl rfl) ?_
   repeat' (first|(simp (disch:=first|omega|assumption|exact bd (by with_unfolding_all rfl)|exact Or.inl rfl|exact Or.inl trivial|exact okL_map _ (fun _=>rfl) _|(simp only[VVlen]<;>omega)|fail) only[O1,VV0,VV1,VV2,VV3,VV4,VV5,VV6,VV7,VV8,VV9,mkFnV,vargs,slotsL,opdsA,Nat.reduceEqDiff,Nat.reduceLT,Nat.reduceAdd,Nat.reduceBEq,Int.reduceAdd,Int.reduceSub,Int.reduceLT,Int.reduceLE,Int.reduceEq,Int.reduceNeg,↓reduceIte,reduceCtorEq,scL,scD,expand,List.replicate])|apply gC_drawW|((first|apply gI_dec|apply gG_dec|apply gPG_dec|apply gI_var|apply gG_var|apply gPG_var)<;>intro _))
   exact weak_flat rfl h0 rfl
 ·repeat' (first|(simp (disch:=first|omega|assumption|exact bd (by with_unfolding_all rfl)|exact Or.inl rfl|exact Or.inl trivial|exact okL_map _ (fun _=>rfl) _|(simp only[VVlen]<;>omega)|fail) only[O1,VV0,VV1,VV2,VV3,VV4,VV5,VV6,VV7,VV8,VV9,mkFnV,vargs,slotsL,opdsA,Nat.reduceEqDiff,Nat.reduceLT,Nat.reduceAdd,Nat.reduceBEq,Int.reduceAdd,Int.reduceSub,Int.reduceLT,Int.reduceLE,Int.reduceEq,Int.reduceNeg,↓reduceIte,reduceCtorEq,scL,scD,expand,List.replicate])|apply gC_drawW|((first|apply gI_dec|apply gG_dec|apply gPG_dec|apply gI_var|apply gG_var|apply gPG_var)<;>intro _))
  all_goals try (exfalso;omega)
  cases hr:r with
  |none=>
   rw[hr] at p2
   refine callV_fin (by rw[hC];exact p2) rfl rfl (fun _=>rfl) ?_
   repeat' (first|(simp (disch:=first|omega|assumption|exact bd (by with_unfolding_all rfl)|exact Or.inl rfl|exact Or.inl trivial|exact okL_map _ (fun _=>rfl) _|(simp only[VVlen]<;>omega)|fail) only[O1,VV0,VV1,VV2,VV3,VV4,VV5,VV6,VV7,VV8,VV9,mkFnV,vargs,slotsL,opdsA,Nat.reduceEqDiff,Nat.reduceLT,Nat.reduceAdd,Nat.reduceBEq,Int.reduceAdd,Int.reduceSub,Int.reduceLT,Int.reduceLE,Int.reduceEq,Int.reduceNeg,↓reduceIte,reduceCtorEq,scL,scD,expand,List.replicate,parseV])|apply gC_drawW|((first|apply gI_dec|apply gG_dec|apply gPG_dec|apply gI_var|apply gG_var|apply gPG_var)<;>intro _))
   exact weak_flat rfl h0 rfl
  |some t=>
   have p3:=p3 t hr
   rw[hr] at p2
   refine callV_fin (by rw[hC];exact p2) rfl rfl (fun _=>rfl) ?_
   repeat' (first|(simp (disch:=first|omega|assumption|exact bd (by with_unfolding_all rfl)|exact Or.inl rfl|exact Or.inl trivial|exact okL_map _ (fun _=>rfl) _|(simp only[VVlen]<;>omega)|fail) only[O1,VV0,VV1,VV2,VV3,VV4,VV5,VV6,VV7,VV8,VV9,mkFnV,vargs,slotsL,opdsA,Nat.reduceEqDiff,Nat.reduceLT,Nat.reduceAdd,Nat.reduceBEq,Int.reduceAdd,Int.reduceSub,Int.reduceLT,Int.reduceLE,Int.reduceEq,Int.reduceNeg,↓reduceIte,reduceCtorEq,scL,scD,expand,List.replicate,parseV])|apply gC_drawW|((first|apply gI_dec|apply gG_dec|apply gPG_dec|apply gI_var|apply gG_var|apply gPG_var)<;>intro _))
   refine callV_flat (by rw[hC];exact p3.flat rfl rfl) ?_
   repeat' (first|(simp (disch:=first|omega|assumption|exact bd (by with_unfolding_all rfl)|exact Or.inl rfl|exact Or.inl trivial|exact okL_map _ (fun _=>rfl) _|(simp only[VVlen]<;>omega)|fail) only[O1,VV0,VV1,VV2,VV3,VV4,VV5,VV6,VV7,VV8,VV9,mkFnV,vargs,slotsL,opdsA,Nat.reduceEqDiff,Nat.reduceLT,Nat.reduceAdd,Nat.reduceBEq,Int.reduceAdd,Int.reduceSub,Int.reduceLT,Int.reduceLE,Int.reduceEq,Int.reduceNeg,↓reduceIte,reduceCtorEq,scL,scD,expand,List.replicate])|apply gC_drawW|((first|apply gI_dec|apply gG_dec|apply gPG_dec|apply gI_var|apply gG_var|apply gPG_var)<;>intro _))
   exact weak_flat rfl h0 rfl
theorem gback_g (w:World) (S N:List (List UInt8)) (M:List (List Int)) (s:List UInt8)
  (hm:S.length≤140737488351232∧N.length≤140737488351232∧M.length≤140737488351232) (zs:∀ j,j<S.length→S[j]!.length≤140737488351232) (zn:∀ j,j<N.length→N[j]!.length≤140737488351232) (zm:∀ j,j<M.length→M[j]!.length≤140737488351232) (hs:s.length≤140737488351232)
  (hes:(errO Tryd.prog w "strconv.ErrSyntax").isSome=true) (her:(errO Tryd.prog w "strconv.ErrRange").isSome=true) {C:Ctx} (hC:C.E=EN w 8) (h0:C.w0.nx=0):
  gC C c5.code [] (vargs 0 [tableV 3 3 3 1 S N M,strV s]) ⟨[],0,0⟩ (RetV C c5.res (.sc (.bool true)) ⟨[],0,0⟩):=by
 have hal:=fun st=>alive_o w 7 st
 have hg:=great_p w 7 3 3 3 1 S N M hm zs zn zm
 have hsz:=mk_size s
 cases hG:greatS S N M with
 |true=>
  rw[hG] at hg
  repeat' (first|(simp (disch:=first|omega|assumption|exact bd (by with_unfolding_all rfl)|exact Or.inl rfl|exact Or.inl trivial|exact okL_map _ (fun _=>rfl) _|(simp only[VVlen]<;>omega)|fail) only[O1,VV0,VV1,VV2,VV3,VV4,VV5,VV6,VV7,VV8,VV9,mkFnV,vargs,slotsL,opdsA,Nat.reduceEqDiff,Nat.reduceLT,Nat.reduceAdd,Nat.reduceBEq,Int.reduceAdd,Int.reduceSub,Int.reduceLT,Int.reduceLE,Int.reduceEq,Int.reduceNeg,↓reduceIte,reduceCtorEq,scL,scD,expand,List.replicate,c5])|apply gC_drawW|((first|apply gI_dec|apply gG_dec|apply gPG_dec|apply gI_var|apply gG_var|apply gPG_var)<;>intro _))
  refine callV_flat (by rw[hC];exact hal _) ?_
  repeat' (first|(simp (disch:=first|omega|assumption|exact bd (by with_unfolding_all rfl)|exact Or.inl rfl|exact Or.inl trivial|exact okL_map _ (fun _=>rfl) _|(simp only[VVlen]<;>omega)|fail) only[O1,VV0,VV1,VV2,VV3,VV4,VV5,VV6,VV7,VV8,VV9,mkFnV,vargs,slotsL,opdsA,Nat.reduceEqDiff,Nat.reduceLT,Nat.reduceAdd,Nat.reduceBEq,Int.reduceAdd,Int.reduceSub,Int.reduceLT,Int.reduceLE,Int.reduceEq,Int.reduceNeg,↓reduceIte,reduceCtorEq,scL,scD,expand,List.replicate])|apply gC_drawW|((first|apply gI_dec|apply gG_dec|apply gPG_dec|apply gI_var|apply gG_var|apply gPG_var)<;>intro _))
  refine callV_flat (by rw[hC];exact hg.flat rfl rfl) ?_
  repeat' (first|(simp (disch:=first|omega|assumption|exact bd (by with_unfolding_all rfl)|exact Or.inl rfl|exact Or.inl trivial|exact okL_map _ (fun _=>rfl) _|(simp only[VVlen]<;>omega)|fail) only[O1,VV0,VV1,VV2,VV3,VV4,VV5,VV6,VV7,VV8,VV9,mkFnV,vargs,slotsL,opdsA,Nat.reduceEqDiff,Nat.reduceLT,Nat.reduceAdd,Nat.reduceBEq,Int.reduceAdd,Int.reduceSub,Int.reduceLT,Int.reduceLE,Int.reduceEq,Int.reduceNeg,↓reduceIte,reduceCtorEq,scL,scD,expand,List.replicate])|apply gC_drawW|((first|apply gI_dec|apply gG_dec|apply gPG_dec|apply gI_var|apply gG_var|apply gPG_var)<;>intro _))
  exact weak_flat rfl h0 rfl
 |false=>
  rw[hG] at hg
  by_cases hl:10000<s.length
  ·repeat' (first|(simp (disch:=first|omega|assumption|exact bd (by with_unfolding_all rfl)|exact Or.inl rfl|exact Or.inl trivial|exact okL_map _ (fun _=>rfl) _|(simp only[VVlen]<;>omega)|fail) only[O1,VV0,VV1,VV2,VV3,VV4,VV5,VV6,VV7,VV8,VV9,mkFnV,vargs,slotsL,opdsA,Nat.reduceEqDiff,Nat.reduceLT,Nat.reduceAdd,Nat.reduceBEq,Int.reduceAdd,Int.reduceSub,Int.reduceLT,Int.reduceLE,Int.reduceEq,Int.reduceNeg,↓reduceIte,reduceCtorEq,scL,scD,expand,List.replicate,c5])|apply gC_drawW|((first|apply gI_dec|apply gG_dec|apply gPG_dec|apply gI_var|apply gG_var|apply gPG_var)<;>intro _))
   refine callV_flat (by rw[hC];exact hal _) ?_
   repeat' (first|(simp (disch:=first|omega|assumption|exact bd (by with_unfolding_all rfl)|exact Or.inl rfl|exact Or.inl trivial|exact okL_map _ (fun _=>rfl) _|(simp only[VVlen]<;>omega)|fail) only[O1,VV0,VV1,VV2,VV3,VV4,VV5,VV6,VV7,VV8,VV9,mkFnV,vargs,slotsL,opdsA,Nat.reduceEqDiff,Nat.reduceLT,Nat.reduceAdd,Nat.reduceBEq,Int.reduceAdd,Int.reduceSub,Int.reduceLT,Int.reduceLE,Int.reduceEq,Int.reduceNeg,↓reduceIte,reduceCtorEq,scL,scD,expand,List.replicate])|apply gC_drawW|((first|apply gI_dec|apply gG_dec|apply gPG_dec|apply gI_var|apply gG_var|apply gPG_var)<;>intro _))
   refine callV_flat (by rw[hC];exact hg.flat rfl rfl) ?_
   repeat' (first|(simp (disch:=first|omega|assumption|exact bd (by with_unfolding_all rfl)|exact Or.inl rfl|exact Or.inl trivial|exact okL_map _ (fun _=>rfl) _|(simp only[VVlen]<;>omega)|fail) only[O1,VV0,VV1,VV2,VV3,VV4,VV5,VV6,VV7,VV8,VV9,mkFnV,vargs,slotsL,opdsA,Nat.reduceEqDiff,Nat.reduceLT,Nat.reduceAdd,Nat.reduceBEq,Int.reduceAdd,Int.reduceSub,Int.reduceLT,Int.reduceLE,Int.reduceEq,Int.reduceNeg,↓reduceIte,reduceCtorEq,scL,scD,expand,List.replicate])|apply gC_drawW|((first|apply gI_dec|apply gG_dec|apply gPG_dec|apply gI_var|apply gG_var|apply gPG_var)<;>intro _))
   all_goals try (exfalso;omega)
   exact weak_flat rfl h0 rfl
  have hM:=mod_great hG
  refine gback_walk w hC h0 S N M s (by omega) (textF (S,N,M)) (accF (rawP s) s) hal hg (textB_p w 3 3 3 3 1 (by decide) (S,N,M) hM) (fun he=>?_) (same_p w 6 0 2 2 0 3 3 3 1 S N M hM) (parse_p w 0 hes her s (by omega)) fun t ht=>?_
  ·have h1:=textF_e he
   have hp:=parse_p w 0 hes her (textF (S,N,M)).1 (by have:=(textF_good h1).2.2;omega)
   rw[accF_text h1] at hp
   exact hp
  ·have h1:=accF_some ht
   have hp:=textB_p w 3 0 2 2 0 (by decide) t (good_mod (textF_good h1).1)
   rw[h1] at hp
   exact hp
end Go.Proofs.YteibgbbfcjgjiaaDoor
namespace Go.Proofs.YteibgbbfcjgjiaaDoor
open Go Go.Itp
open Go.ChangeShapes Go.WideShapes Go.ChangeAt Go.RowKit
set_option linter.unusedVariables false
set_option maxRecDepth 100000
set_option maxHeartbeats 4000000
theorem reach_lt:reachBytes≤140737488351232:=by decide
theorem slice_t {P:Program} {W:World} {base:Nat} {held:Bool} {H:Type} {enc:TypeId × Value→H} {t e:TypeId} {n:Nat} {v:Value} {x:DataW H × List MemPlace} (ht:P.underlying t=some (.slice e)) (h:DataW.trod enc P W base (fun _=>true) held n t [v]=some x):v= .slice none 0 0∨∃ a n c,v= .slice (some a) n c:=by
 rcases DataW.trod_slice ht h with ⟨h1,_⟩|⟨a,len,cap,_,_,_,_,h1,_⟩
 ·exact .inl (by simpa using h1)
 ·exact .inr ⟨_,_,_,by simpa using h1⟩
theorem strs_old {old:Nat→Nat→Option Value} {v:Value} {l:List ByteArray} (r:Rd old [] Value.string v l) (hb:bidN v=0) (hv:v= .slice none 0 0∨∃ a n c,v= .slice (some a) n c):
  VRep (wOld old) (strs 3 (l.map fun b:ByteArray=>b.data.toList)) v:=by
 have h:=vrep_old (fun b:ByteArray=>sD b.data.toList) r hb hv fun x _=>by simp only[sD,DRep,scOK,and_self,Array.toArray_toList]
 have e:l.map (fun b:ByteArray=>sD b.data.toList)=(l.map fun b:ByteArray=>b.data.toList).map sD:=by rw[List.map_map];rfl
 unfold strs
 rw[List.length_map,← e]
 exact h
theorem strs_len {l:List ByteArray} {B:Nat} (h:∀ j,j<l.length→l[j]!.size≤B):∀ j,j<(l.map fun b:ByteArray=>b.data.toList).length→(l.map fun b:ByteArray=>b.data.toList)[j]!.length≤B:=fun j hj=>by
 rw[List.length_map] at hj
 have:=h j hj
 rw[getElem!_pos _ j (by rw[List.length_map];exact hj),List.getElem_map]
 rw[getElem!_pos l j hj] at this
 simpa using this
theorem open_table {H:Type} {enc:TypeId × Value→H} {W:World} {b:Nat} {held:Bool} {v:Value} {d:DataW H} {ps:List MemPlace} (hv:Value.okWide Tryd.prog W .any b 25 v) (h:DataW.Trod enc Tryd.prog W 0 (fun _=>true) held 25 v d ps)
  (hsz:∀ n ∈ d.weights Tryd.prog 25,n≤reachBytes):
  ∃ (S N:List (List UInt8)) (M:List (List Int)),VRep (wOld (oldOf W)) (tableV 3 3 3 1 S N M) v∧ids 0 v= []∧(S.length≤reachBytes∧N.length≤reachBytes∧M.length≤reachBytes)∧(∀ j,j<S.length→S[j]!.length≤reachBytes)∧(∀ j,j<N.length→N[j]!.length≤reachBytes)∧
   ∀ j,j<M.length→M[j]!.length≤reachBytes∧∀ z ∈ M[j]!,(Lit.int .i64 z).wf=true:=by
 obtain ⟨n,a0,a1,a2,y0,y1,y2,rfl,e0,e1,e2,h0,h1,h2,w0,w1,w2⟩:=open_three Tryd.underlying25 rfl rfl rfl (by kernel_rfl) (by kernel_rfl) (by kernel_rfl) (by kernel_rfl) hv h hsz
 obtain ⟨S,s1,s2,s3,s4⟩:=rd_strings' Tryd.underlying22 Tryd.underlying9 (by kernel_rfl) (by rw[show Tryd.prog.bytesOf 9=16 by kernel_rfl];decide) h0 w0
 obtain ⟨N,n1,n2,n3,n4⟩:=rd_strings' Tryd.underlying22 Tryd.underlying9 (by kernel_rfl) (by rw[show Tryd.prog.bytesOf 9=16 by kernel_rfl];decide) h1 w1
 obtain ⟨rs,V,v1,v2,v3,v4,v5⟩:=rd_rows' Tryd.underlying23 Tryd.underlying40 Tryd.underlying3 (by kernel_rfl) (by rw[show Tryd.prog.bytesOf 40=24 by kernel_rfl];decide) (by kernel_rfl) (by rw[show Tryd.prog.bytesOf 3=8 by kernel_rfl];decide) h2 w2
 rw[show Tryd.prog.bytesOf 9=16 by kernel_rfl] at s4 n4
 rw[show Tryd.prog.bytesOf 40=24 by kernel_rfl] at v4
 rw[show Tryd.prog.bytesOf 3=8 by kernel_rfl] at v5
 rw[e0] at s1 s2
 rw[e1] at n1 n2
 rw[e2] at v1 v2
 have r0:=strs_old (s1 []) s2 (slice_t Tryd.underlying22 h0)
 have r1:=strs_old (n1 []) n2 (slice_t Tryd.underlying22 h1)
 have r2:VRep (wOld (oldOf W)) (rowsV 3 1 V) a2:=vrep_rows (v1 []) v2 (slice_t Tryd.underlying23 h2) v3 fun j hj=>⟨(v5 j hj).1 [],(v5 j hj).2.1,(v5 j hj).2.2.2.2⟩
 refine ⟨S.map fun b:ByteArray=>b.data.toList,N.map fun b:ByteArray=>b.data.toList,V,?_,?_,⟨by rw[List.length_map];omega,by rw[List.length_map];omega,by omega⟩,strs_len s3,strs_len n3,fun j hj=>⟨by have:=(v5 j hj).2.2.2.1;omega,(v5 j hj).2.2.1⟩⟩
 ·unfold tableV
  rw[VRep]
  refine ⟨[a0,a1,a2],rfl,?_⟩
  simp only[VRepL]
  exact ⟨_,_,rfl,r0,_,_,rfl,r1,_,_,rfl,r2,rfl⟩
 ·rw[ids_agg,idsL_cons,idsL_cons,idsL_cons,abs_ids e0 s2 (trod_is_slice Tryd.underlying22 h0),abs_ids e1 n2 (trod_is_slice Tryd.underlying22 h1),abs_ids e2 v2 (trod_is_slice Tryd.underlying23 h2)]
  rfl
def listed:List (String × DataW Unit):= [("math/bits.deBruijn32tab",Rows.laid_math_bits_deBruijn32tab),("math/bits.deBruijn64tab",Rows.laid_math_bits_deBruijn64tab),("internal/strconv.uint64pow10",Rows.laid_internal_strconv_uint64pow10),("unicode/utf8.acceptRanges",Rows.laid_unicode_utf8_acceptRanges),("strconv.ErrRange",Rows.laid_strconv_ErrRange),("strconv.ErrSyntax",Rows.laid_strconv_ErrSyntax),("unicode/utf8.first",Rows.laid_unicode_utf8_first)]
theorem listed_met (os:Os) (args:Array Value):laidMetH Tryd.prog listed ((World.laidAll Tryd.prog os listed).forCall (fun _ _=>0) ⟨#[],args,[]⟩).memory:=by
 rw[MakeChecks.laidMetH_plain _ _ _ (by kernel_rfl)]
 exact laidMet_laidAll _ (by kernel_rfl) (by kernel_rfl)
theorem listed_shaped (os:Os):(World.laidAll Tryd.prog os listed).Shaped Tryd.prog:=World.shaped_of_ZipB (by kernel_rfl) (by kernel_rfl)
theorem oldP_is {W:World} (h:laidMet Tryd.prog listed W):OldIs oldP W:=fun b o v e=>by
 unfold oldP at e
 split at e
 ·rename_i hb
  have:=Nat.eq_of_beq_eq_true hb
  subst this
  exact laid_table h 2 rfl (g:=3) (by kernel_rfl) (t:=123) (by kernel_rfl) Tryd.underlying123 Tryd.underlying105 (by kernel_rfl) (by kernel_rfl) o e rfl
 ·cases e
theorem stand_ins {l:List TypeId} {t:TypeId} (hall:(l.all fun u=> !Tryd.prog.wantsStandIn u)=true) (h:t ∈ l):Tryd.prog.wantsStandIn t=false:=by
 have:=List.all_eq_true.1 hall t h
 simpa using this
theorem gback_lifted (os:Os) (started:os.Started) (H:Type) (enc:TypeId × Value→H):
  ReturnsInHanded {} Tryd.checked os 5 .any (fun w args=>(Rows.gradeBackSpec.pre enc Tryd.prog Tryd.f5 [] false w args∧laidMetH Tryd.prog listed w)∧sizedMet enc Tryd.prog Tryd.f5 (OpenSpec.ofChange Rows.gradeBackSpec) false w args)
   (Rows.gradeBackSpec.post enc Tryd.prog Tryd.f5 false true false false):=by
 refine returnsInHanded_of_change_and (C:=Tryd.checked) (X:=fun w _=>laidMetH Tryd.prog listed w) (fun _ _ _ hh h=>h.of_heap hh) own started (by kernel_rfl) Tryd.func5
  (ChangeSpec.witness_shaped (enc:=enc) (C:=Tryd.checked) (os:=os) (X:=fun w _=>laidMetH Tryd.prog listed w) false (World.laidAll Tryd.prog os listed) #[.agg #[.slice none 0 0,.slice none 0 0,.slice none 0 0],.string .empty] 8 (World.laidAll_os _ _ _) (listed_shaped os) (by kernel_rfl) (by kernel_rfl) (by kernel_rfl) (listed_met os _)) ?_
 intro W base args ds gs before hval0 hW _ hsz0 hL _
 have hval:∀ (j:Nat) t v,Tryd.f5.params[j]? =some t→args[j]? =some v→Value.okWide Tryd.prog W .any base t v:=hval0
 have hW':=hW
 obtain ⟨p,q,hA0,hV,rfl,hfz,hnd⟩:=hW
 have hA:DataW.TrodAll enc Tryd.prog W 0 (fun _=>true) true Tryd.f5.params.toList args.toList ds p:=hA0
 have hsz:(DataW.weightsEach Tryd.prog (Tryd.f5.params.toList++Rows.gradeBackSpec.plain.varTypes Tryd.prog) (ds++gs)).all (· ≤reachBytes)=true:=hsz0
 rw[Tryd.params5] at hA hval hsz
 obtain ⟨v0,vs0,d0,ds0,p0,q0,hargs,rfl,rfl,h0,r0⟩:=trodAll_cons hA
 obtain ⟨v1,vs1,d1,ds1,p1,q1,rfl,rfl,rfl,h1,r1⟩:=trodAll_cons r0
 obtain ⟨rfl,rfl,rfl⟩:=trodAll_nil r1
 obtain rfl:args=#[v0,v1]:=by cases args;simp_all
 have hr:=reach_lt
 obtain ⟨S0,N0,M0,hv0,hli0,⟨ha0,hb0,hc0⟩,hd0,he0,hf0⟩:=open_table (hval 0 25 v0 rfl rfl) h0 (weights_at (j:=0) hsz rfl rfl)
 obtain ⟨s1,rfl,hs1⟩:=open_str Tryd.underlying9 (hval 1 9 v1 rfl rfl) h1 (weights_at (j:=1) hsz rfl rfl)
 obtain ⟨x1,rfl⟩:∃ x:List UInt8,s1=⟨x.toArray⟩:=⟨s1.data.toList,by simp⟩
 rw[mk_size] at hs1
 have hLm:laidMet Tryd.prog listed W:=by rw[← MakeChecks.laidMetH_plain _ _ _ (by kernel_rfl)];exact hL
 have htab:Tab W:=⟨laid_tab hLm 2 rfl (g:=3) (t:=123) (e:=105) (k:= .u64) (m:=20) (by kernel_rfl) (by kernel_rfl) Tryd.underlying123 Tryd.underlying105 (by kernel_rfl) (by kernel_rfl) rfl,oldP_is hLm⟩
 have hesy:(errO Tryd.prog W "strconv.ErrSyntax").isSome=true:=laid_errO hLm 5 rfl (g:=0) (t:=63) (by kernel_rfl) (by kernel_rfl) Tryd.underlying63
 have herr:(errO Tryd.prog W "strconv.ErrRange").isSome=true:=laid_errO hLm 4 rfl (g:=1) (t:=63) (by kernel_rfl) (by kernel_rfl) Tryd.underlying63
 obtain ⟨s',hbody⟩:=law_v (old:=oldOf W) (rounds:=many) (fns:=fns) (prims:=PR W) (n:=8) (af:=c5) (xs:= [tableV 3 3 3 1 S0 N0 M0,.sc (.string ⟨x1.toArray⟩)]) (xsI:= [v0,.string ⟨x1.toArray⟩]) (x:= .bool true) (Nat.le_of_ble_eq_true rfl)
  (by simp only[VRepL];exact ⟨_,_,rfl,hv0,_,_,rfl,.mksc rfl,rfl⟩) fun C hC hn=>gback_g W S0 N0 M0 x1 ⟨Nat.le_trans ha0 hr,Nat.le_trans hb0 hr,Nat.le_trans hc0 hr⟩ (fun j hj=>Nat.le_trans (hd0 j hj) hr) (fun j hj=>Nat.le_trans (he0 j hj) hr) (fun j hj=>Nat.le_trans (hf0 j hj).1 hr) (by omega) hesy herr hC hn
 have hfn:fns 5=some c5:=rfl
 have hrv:ids 0 (.bool true)= []:=rfl
 refine (law_of htab (f:=5) (af:=c5) hfn (xs:= [v0,.string ⟨x1.toArray⟩]) (by simp only[idsL_cons,hli0];rfl) _ hbody hrv).mono fun e W' ⟨he,hbe⟩=>?_
 exact ⟨_,he,law_post hW' rfl rfl (by kernel_rfl) (by kernel_rfl) Tryd.underlying4 hbe⟩
theorem gback_over:Rows.GradeBackSaid:=
 OpenClaim.holds_of_wide 5 Tryd.f5 rfl rfl rfl rfl rfl rfl rfl ⟨rfl,rfl,rfl,rfl,rfl⟩ rfl rfl rfl rfl rfl (by kernel_rfl) Tryd.func5 (by kernel_rfl)
  (of_decide_eq_true (by kernel_rfl)) (by unfold Func.isWrapper;first|(rw[if_pos (by decide+kernel)];kernel_rfl)|(rw[if_neg (by decide+kernel)];exact ⟨rfl,rfl⟩))
  (fun os started H enc _=>gback_lifted os started H enc)
theorem gback_holds:Rows.GradeBackCardSaid:=
 Claim7.holds_tied_plain_at .later [] [.data,.data,.data,.data,.sentinel,.sentinel,.pinned] true _ true
  gback_over (fun _ h=>by cases h) (by kernel_rfl) (fun _ h=>by cases h) gradeBack_row_tie rfl ⟨rfl,rfl⟩ (by kernel_rfl) rfl
  (fun f fn hf hfn=>by
   obtain rfl:f=5:=Option.some.inj ((show Tryd.prog.funcNamed "raddle/raddlelaw40.GradeBack"=some 5 by kernel_rfl).symm.trans hf)|>.symm
   obtain rfl:fn=Tryd.f5:=(Option.some.inj (Tryd.func5.symm.trans hfn)).symm
   exact ⟨by kernel_rfl,fun j t ht=>stand_ins (l:= [25,9]) (by kernel_rfl) (by rw[Tryd.params5] at ht;simpa using Array.mem_of_getElem? ht)⟩)
  (by kernel_rfl)
#print axioms gback_holds
end Go.Proofs.YteibgbbfcjgjiaaDoor
