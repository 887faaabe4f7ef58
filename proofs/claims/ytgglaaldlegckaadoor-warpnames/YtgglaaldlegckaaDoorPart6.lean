/- What is proved: the law WarpNames returns true. Conditions: none beyond the card's own.
   Texts: E22b, E22c, E22d, E22e, E22f, E22g, E22h, E22i, E22j, E22n, D22b, D22c, D22d, D22e, D22f, D22g, E22p, E22o, E22q.
-/
import Derived.Test.YtgglaaldlegckaaDoorPart5
import Derived.Test.YtgglaaldlegckaaDoorCards
import Derived.Test.YtgglaaldlegckaaDoorTie
import Derived.SizedLaws
import Derived.ChangeAt
import Derived.SevenTiedAt
import Derived.Stop.Joined
import Derived.Lay
namespace Go.Proofs.YtgglaaldlegckaaDoor
open Go Go.Itp
set_option maxRecDepth 100000
set_option maxHeartbeats 1000000
set_option linter.unusedSimpArgs false
section
variable (w:World) (n:Nat)
theorem indexByteString_o (st:VSt) (l:List UInt8) (c:UInt8):VSpecO (EN w (n+1)) 91 st [strV l,.sc (.int .u8 c.toNat)] (.sc (.int .i64 (idxB c l))):=by
 refine prim_o (ys:= [.string ⟨l.toArray⟩,.int .u8 c.toNat]) (fun s=>?_) rfl
 refine orElse_right rfl (orElse_left ?_)
 show primA .indexByte 0 [.string ⟨l.toArray⟩,.int .u8 c.toNat] s=_
 unfold primA
 simp only[Int.toNat_natCast]
 rw[show c.toNat.toUInt8=c by simp,firstIdxA_l]
theorem indexByte_p (l:List UInt8) (c:UInt8):VSpec (EN w (n+2)) 79 [strV l,.sc (.int .u8 c.toNat)] (.sc (.int .i64 (idxB c l))) ⟨[],0,0⟩:=by
 refine vspec_flat rfl rfl (fun _ _=>rfl) (Nat.le_of_ble_eq_true rfl) (oldVals w) rfl fun C hC h0=>?_
 repeat' (first|(simp (disch:=first|omega|assumption|exact bd (by with_unfolding_all rfl)|exact Or.inl rfl|exact Or.inl trivial|exact okL_map _ (fun _=>rfl) _|(simp only[VVlen]<;>omega)|fail) only[VV0,VV1,VV2,VV3,VV4,VV5,VV6,VV7,VV8,VV9,mkFnV,vargs,slotsL,opdsA,Nat.reduceEqDiff,Nat.reduceLT,Nat.reduceAdd,Nat.reduceBEq,Int.reduceAdd,Int.reduceSub,Int.reduceLT,Int.reduceLE,Int.reduceEq,Int.reduceNeg,↓reduceIte,reduceCtorEq,scL,scD,expand,List.replicate,c79])|apply gC_drawW|((first|apply gI_dec|apply gG_dec|apply gPG_dec|apply gI_var|apply gG_var|apply gPG_var)<;>intro _))
 refine callV_flat (by rw[hC];exact indexByteString_o w n _ l c) ?_
 repeat' (first|(simp (disch:=first|omega|assumption|exact bd (by with_unfolding_all rfl)|exact Or.inl rfl|exact Or.inl trivial|exact okL_map _ (fun _=>rfl) _|(simp only[VVlen]<;>omega)|fail) only[VV0,VV1,VV2,VV3,VV4,VV5,VV6,VV7,VV8,VV9,mkFnV,vargs,slotsL,opdsA,Nat.reduceEqDiff,Nat.reduceLT,Nat.reduceAdd,Nat.reduceBEq,Int.reduceAdd,Int.reduceSub,Int.reduceLT,Int.reduceLE,Int.reduceEq,Int.reduceNeg,↓reduceIte,reduceCtorEq,scL,scD,expand,List.replicate])|apply gC_drawW|((first|apply gI_dec|apply gG_dec|apply gPG_dec|apply gI_var|apply gG_var|apply gPG_var)<;>intro _))
 exact weak_flat rfl h0 rfl
theorem index1_p (l:List UInt8) (c:UInt8) (hl:l.length≤1000000000):VSpec (EN w (n+3)) 68 [strV l,strV [c]] (.sc (.int .i64 (idxB c l))) ⟨[],0,0⟩:=by
 refine vspec_flat rfl rfl (fun _ _=>rfl) (Nat.le_of_ble_eq_true rfl) (oldVals w) rfl fun C hC h0=>?_
 have h1:(ByteArray.mk [c].toArray).size=1:=rfl
 have hlc:((ByteArray.mk [c].toArray)=ByteArray.mk l.toArray)↔l= [c]:=by
  constructor
  ·intro h
   have:=congrArg (fun b:ByteArray=>b.data.toList) h
   simpa using this.symm
  ·rintro rfl;rfl
 by_cases hc:l= [c]
 ·subst hc
  have hi:idxB c [c]=0:=idxB_app (a:= []) [] (by simp)
  rw[hi]
  repeat' (first|(simp (disch:=first|omega|assumption|exact bd (by with_unfolding_all rfl)|exact Or.inl rfl|exact Or.inl trivial|exact okL_map _ (fun _=>rfl) _|(simp only[VVlen]<;>omega)|fail) only[VV0,VV1,VV2,VV3,VV4,VV5,VV6,VV7,VV8,VV9,mkFnV,vargs,slotsL,opdsA,Nat.reduceEqDiff,Nat.reduceLT,Nat.reduceAdd,Nat.reduceBEq,Int.reduceAdd,Int.reduceSub,Int.reduceLT,Int.reduceLE,Int.reduceEq,Int.reduceNeg,↓reduceIte,reduceCtorEq,scL,scD,expand,List.replicate,c68,h1])|apply gC_drawW|((first|apply gI_dec|apply gG_dec|apply gPG_dec|apply gI_var|apply gG_var|apply gPG_var)<;>intro _))
  exact weak_flat rfl h0 rfl
 ·have hb:idxStrV (strV [c]) (.sc (.int .i64 0))=some (.sc (.int .u8 c.toNat)):=by
   rw[idxStr_l _ _ _ (by omega) (by simp)]
   rfl
  repeat' (first|(simp (disch:=first|omega|assumption|exact bd (by with_unfolding_all rfl)|exact Or.inl rfl|exact Or.inl trivial|exact okL_map _ (fun _=>rfl) _|(simp only[VVlen]<;>omega)|fail) only[VV0,VV1,VV2,VV3,VV4,VV5,VV6,VV7,VV8,VV9,mkFnV,vargs,slotsL,opdsA,Nat.reduceEqDiff,Nat.reduceLT,Nat.reduceAdd,Nat.reduceBEq,Int.reduceAdd,Int.reduceSub,Int.reduceLT,Int.reduceLE,Int.reduceEq,Int.reduceNeg,↓reduceIte,reduceCtorEq,scL,scD,expand,List.replicate,c68,h1,hlc,hc,hb])|apply gC_drawW|((first|apply gI_dec|apply gG_dec|apply gPG_dec|apply gI_var|apply gG_var|apply gPG_var)<;>intro _))
  refine callV_flat ((indexByte_p w n l c).of hC rfl _ rfl) ?_
  repeat' (first|(simp (disch:=first|omega|assumption|exact bd (by with_unfolding_all rfl)|exact Or.inl rfl|exact Or.inl trivial|exact okL_map _ (fun _=>rfl) _|(simp only[VVlen]<;>omega)|fail) only[VV0,VV1,VV2,VV3,VV4,VV5,VV6,VV7,VV8,VV9,mkFnV,vargs,slotsL,opdsA,Nat.reduceEqDiff,Nat.reduceLT,Nat.reduceAdd,Nat.reduceBEq,Int.reduceAdd,Int.reduceSub,Int.reduceLT,Int.reduceLE,Int.reduceEq,Int.reduceNeg,↓reduceIte,reduceCtorEq,scL,scD,expand,List.replicate])|apply gC_drawW|((first|apply gI_dec|apply gG_dec|apply gPG_dec|apply gI_var|apply gG_var|apply gPG_var)<;>intro _))
  exact weak_flat rfl h0 rfl
theorem index_p (l:List UInt8) (c:UInt8) (hl:l.length≤1000000000):VSpec (EN w (n+4)) 67 [strV l,strV [c]] (.sc (.int .i64 (idxB c l))) ⟨[],0,0⟩:=by
 refine vspec_flat rfl rfl (fun _ _=>rfl) (Nat.le_of_ble_eq_true rfl) (oldVals w) rfl fun C hC h0=>?_
 repeat' (first|(simp (disch:=first|omega|assumption|exact bd (by with_unfolding_all rfl)|exact Or.inl rfl|exact Or.inl trivial|exact okL_map _ (fun _=>rfl) _|(simp only[VVlen]<;>omega)|fail) only[VV0,VV1,VV2,VV3,VV4,VV5,VV6,VV7,VV8,VV9,mkFnV,vargs,slotsL,opdsA,Nat.reduceEqDiff,Nat.reduceLT,Nat.reduceAdd,Nat.reduceBEq,Int.reduceAdd,Int.reduceSub,Int.reduceLT,Int.reduceLE,Int.reduceEq,Int.reduceNeg,↓reduceIte,reduceCtorEq,scL,scD,expand,List.replicate,c67])|apply gC_drawW|((first|apply gI_dec|apply gG_dec|apply gPG_dec|apply gI_var|apply gG_var|apply gPG_var)<;>intro _))
 refine callV_flat ((index1_p w n l c hl).of hC rfl _ rfl) ?_
 repeat' (first|(simp (disch:=first|omega|assumption|exact bd (by with_unfolding_all rfl)|exact Or.inl rfl|exact Or.inl trivial|exact okL_map _ (fun _=>rfl) _|(simp only[VVlen]<;>omega)|fail) only[VV0,VV1,VV2,VV3,VV4,VV5,VV6,VV7,VV8,VV9,mkFnV,vargs,slotsL,opdsA,Nat.reduceEqDiff,Nat.reduceLT,Nat.reduceAdd,Nat.reduceBEq,Int.reduceAdd,Int.reduceSub,Int.reduceLT,Int.reduceLE,Int.reduceEq,Int.reduceNeg,↓reduceIte,reduceCtorEq,scL,scD,expand,List.replicate])|apply gC_drawW|((first|apply gI_dec|apply gG_dec|apply gPG_dec|apply gI_var|apply gG_var|apply gPG_var)<;>intro _))
 exact weak_flat rfl h0 rfl
def cutB (c:UInt8) (l:List UInt8):List UInt8 × List UInt8 × Bool:=if 0≤idxB c l then (l.take (idxB c l).toNat,l.drop ((idxB c l).toNat+1),true) else (l,[],false)
theorem cut1_p (l:List UInt8) (c:UInt8) (hl:l.length≤1000000000):VSpec (EN w (n+4)) 58 [strV l,strV [c]] (.tup [strV (cutB c l).1,strV (cutB c l).2.1,.sc (.bool (cutB c l).2.2)]) ⟨[],0,0⟩:=by
 refine vspec_flat rfl rfl (fun _ _=>rfl) (Nat.le_of_ble_eq_true rfl) (oldVals w) rfl fun C hC h0=>?_
 have h1:(ByteArray.mk [c].toArray).size=1:=rfl
 repeat' (first|(simp (disch:=first|omega|assumption|exact bd (by with_unfolding_all rfl)|exact Or.inl rfl|exact Or.inl trivial|exact okL_map _ (fun _=>rfl) _|(simp only[VVlen]<;>omega)|fail) only[VV0,VV1,VV2,VV3,VV4,VV5,VV6,VV7,VV8,VV9,mkFnV,vargs,slotsL,opdsA,Nat.reduceEqDiff,Nat.reduceLT,Nat.reduceAdd,Nat.reduceBEq,Int.reduceAdd,Int.reduceSub,Int.reduceLT,Int.reduceLE,Int.reduceEq,Int.reduceNeg,↓reduceIte,reduceCtorEq,scL,scD,expand,List.replicate,c58])|apply gC_drawW|((first|apply gI_dec|apply gG_dec|apply gPG_dec|apply gI_var|apply gG_var|apply gPG_var)<;>intro _))
 refine callV_flat ((index1_p w n l c hl).of hC rfl _ rfl) ?_
 rcases byte_split c l with hf|⟨a,r,rfl,hf⟩
 ·have hi:=idxB_free hf
  have e:cutB c l=(l,[],false):=by unfold cutB;rw[if_neg (by omega)]
  rw[e,hi]
  repeat' (first|(simp (disch:=first|omega|assumption|exact bd (by with_unfolding_all rfl)|exact Or.inl rfl|exact Or.inl trivial|exact okL_map _ (fun _=>rfl) _|(simp only[VVlen]<;>omega)|fail) only[VV0,VV1,VV2,VV3,VV4,VV5,VV6,VV7,VV8,VV9,mkFnV,vargs,slotsL,opdsA,Nat.reduceEqDiff,Nat.reduceLT,Nat.reduceAdd,Nat.reduceBEq,Int.reduceAdd,Int.reduceSub,Int.reduceLT,Int.reduceLE,Int.reduceEq,Int.reduceNeg,↓reduceIte,reduceCtorEq,scL,scD,expand,List.replicate])|apply gC_drawW|((first|apply gI_dec|apply gG_dec|apply gPG_dec|apply gI_var|apply gG_var|apply gPG_var)<;>intro _))
  all_goals try (exfalso;omega)
  exact weak_flat rfl h0 rfl
 ·have hi:=idxB_app r hf
  have e:cutB c (a++c::r)=(a,r,true):=by unfold cutB;rw[if_pos (by omega),hi];simp
  rw[e,hi]
  have hal:a.length≤1000000000:=by simp at hl;omega
  have hb:a.length+(c::r).length≤1000000000:=by simpa using hl
  have e1:=slcS_hi (a++c::r) .i64 a.length (by omega) (by simp;omega)
  have e2:=slcS_lo (a++c::r) .i64 ((a.length:Int)+1) (by omega) (by simp;omega)
  rw[Int.toNat_natCast,List.take_left] at e1
  rw[show ((a.length:Int)+1).toNat=a.length+1 by omega,show (a++c::r).drop (a.length+1)=r by rw[← List.drop_drop];simp] at e2
  have h1i:((1:Nat):Int)=1:=rfl
  repeat' (first|(simp (disch:=first|omega|assumption|exact bd (by with_unfolding_all rfl)|exact Or.inl rfl|exact Or.inl trivial|exact okL_map _ (fun _=>rfl) _|(simp only[VVlen]<;>omega)|fail) only[VV0,VV1,VV2,VV3,VV4,VV5,VV6,VV7,VV8,VV9,mkFnV,vargs,slotsL,opdsA,Nat.reduceEqDiff,Nat.reduceLT,Nat.reduceAdd,Nat.reduceBEq,Int.reduceAdd,Int.reduceSub,Int.reduceLT,Int.reduceLE,Int.reduceEq,Int.reduceNeg,↓reduceIte,reduceCtorEq,scL,scD,expand,List.replicate,h1,h1i,e1,e2])|apply gC_drawW|((first|apply gI_dec|apply gG_dec|apply gPG_dec|apply gI_var|apply gG_var|apply gPG_var)<;>intro _))
  all_goals try (exfalso;omega)
  exact weak_flat rfl h0 rfl
theorem cut_p (l:List UInt8) (c:UInt8) (hl:l.length≤1000000000):VSpec (EN w (n+5)) 48 [strV l,strV [c]] (.tup [strV (cutB c l).1,strV (cutB c l).2.1,.sc (.bool (cutB c l).2.2)]) ⟨[],0,0⟩:=by
 refine vspec_flat rfl rfl (fun _ _=>rfl) (Nat.le_of_ble_eq_true rfl) (oldVals w) rfl fun C hC h0=>?_
 repeat' (first|(simp (disch:=first|omega|assumption|exact bd (by with_unfolding_all rfl)|exact Or.inl rfl|exact Or.inl trivial|exact okL_map _ (fun _=>rfl) _|(simp only[VVlen]<;>omega)|fail) only[VV0,VV1,VV2,VV3,VV4,VV5,VV6,VV7,VV8,VV9,mkFnV,vargs,slotsL,opdsA,Nat.reduceEqDiff,Nat.reduceLT,Nat.reduceAdd,Nat.reduceBEq,Int.reduceAdd,Int.reduceSub,Int.reduceLT,Int.reduceLE,Int.reduceEq,Int.reduceNeg,↓reduceIte,reduceCtorEq,scL,scD,expand,List.replicate,c48])|apply gC_drawW|((first|apply gI_dec|apply gG_dec|apply gPG_dec|apply gI_var|apply gG_var|apply gPG_var)<;>intro _))
 refine callV_flat ((cut1_p w n l c hl).of hC rfl _ rfl) ?_
 repeat' (first|(simp (disch:=first|omega|assumption|exact bd (by with_unfolding_all rfl)|exact Or.inl rfl|exact Or.inl trivial|exact okL_map _ (fun _=>rfl) _|(simp only[VVlen]<;>omega)|fail) only[VV0,VV1,VV2,VV3,VV4,VV5,VV6,VV7,VV8,VV9,mkFnV,vargs,slotsL,opdsA,Nat.reduceEqDiff,Nat.reduceLT,Nat.reduceAdd,Nat.reduceBEq,Int.reduceAdd,Int.reduceSub,Int.reduceLT,Int.reduceLE,Int.reduceEq,Int.reduceNeg,↓reduceIte,reduceCtorEq,scL,scD,expand,List.replicate])|apply gC_drawW|((first|apply gI_dec|apply gG_dec|apply gPG_dec|apply gI_var|apply gG_var|apply gPG_var)<;>intro _))
 exact weak_flat rfl h0 rfl
end
end Go.Proofs.YtgglaaldlegckaaDoor
namespace Go.Proofs.YtgglaaldlegckaaDoor
open Go Go.Itp
set_option maxRecDepth 100000
set_option maxHeartbeats 1000000
set_option linter.unusedSimpArgs false
abbrev sBox (l:List UInt8):Itp.Obj:= .box 9 1 [strV l]
theorem split_ret (l:List UInt8) (c:UInt8):RetOK [(2,.box 3 1 [.sc (.int .i64 0)]),(1,sBox [c]),(0,sBox l)] (.fn 65 [] [.ptr 1 0,.ptr 0 0,.ptr 2 0]):=by
 refine ⟨?_,fun o t e L h=>?_,fun o ob h=>?_⟩
 ·simp only[Cl,ClL,and_true,true_and]
  exact ⟨⟨_,rfl,rfl⟩,⟨_,rfl,rfl⟩,⟨_,rfl,rfl⟩⟩
 ·simp only[aget_cons,aget_nil] at h
  split at h
  ·cases h;exact ⟨trivial,trivial⟩
  split at h
  ·cases h;exact ⟨trivial,trivial⟩
  split at h
  ·cases h;exact ⟨trivial,trivial⟩
  ·cases h
 ·intro _
  refine VR.root o ?_
  simp only[aget_cons,aget_nil] at h
  simp only[vids,vidsL,List.mem_append,List.mem_cons,List.not_mem_nil,or_false,false_or]
  split at h
  ·omega
  split at h
  ·omega
  split at h
  ·omega
  ·cases h
section
variable (w:World) (n:Nat)
theorem splitSeq0_p (l:List UInt8) (c:UInt8):VSpec (EN w (n+1)) 57 [strV l,strV [c],.sc (.int .i64 0)] (.fn 65 [] [.ptr 1 0,.ptr 0 0,.ptr 2 0]) ⟨[(2,.box 3 1 [.sc (.int .i64 0)]),(1,sBox [c]),(0,sBox l)],3,0⟩:=by
 refine vspec_g rfl rfl (fun _ _=>rfl) (Nat.le_of_ble_eq_true rfl) (oldVals w) (split_ret l c) rfl fun C hC hn=>?_
 repeat' (first|(simp (disch:=first|omega|assumption|exact bd (by with_unfolding_all rfl)|exact Or.inl rfl|exact Or.inl trivial|exact okL_map _ (fun _=>rfl) _|(simp only[VVlen]<;>omega)|fail) only[VV0,VV1,VV2,VV3,VV4,VV5,VV6,VV7,VV8,VV9,mkFnV,vargs,slotsL,opdsA,Nat.reduceEqDiff,Nat.reduceLT,Nat.reduceAdd,Nat.reduceBEq,Int.reduceAdd,Int.reduceSub,Int.reduceLT,Int.reduceLE,Int.reduceEq,Int.reduceNeg,↓reduceIte,reduceCtorEq,scL,scD,expand,List.replicate,c57])|apply gC_drawW|((first|apply gI_dec|apply gG_dec|apply gPG_dec|apply gI_var|apply gG_var|apply gPG_var)<;>intro _))
 exact weak_to [(2,2),(1,1),(0,0)] 3 hn rfl rfl rfl rfl
theorem splitSeq_p (l:List UInt8) (c:UInt8):VSpec (EN w (n+2)) 47 [strV l,strV [c]] (.fn 65 [] [.ptr 1 0,.ptr 0 0,.ptr 2 0]) ⟨[(2,.box 3 1 [.sc (.int .i64 0)]),(1,sBox [c]),(0,sBox l)],3,0⟩:=by
 refine vspec_g rfl rfl (fun _ _=>rfl) (Nat.le_of_ble_eq_true rfl) (oldVals w) (split_ret l c) rfl fun C hC hn=>?_
 repeat' (first|(simp (disch:=first|omega|assumption|exact bd (by with_unfolding_all rfl)|exact Or.inl rfl|exact Or.inl trivial|exact okL_map _ (fun _=>rfl) _|(simp only[VVlen]<;>omega)|fail) only[VV0,VV1,VV2,VV3,VV4,VV5,VV6,VV7,VV8,VV9,mkFnV,vargs,slotsL,opdsA,Nat.reduceEqDiff,Nat.reduceLT,Nat.reduceAdd,Nat.reduceBEq,Int.reduceAdd,Int.reduceSub,Int.reduceLT,Int.reduceLE,Int.reduceEq,Int.reduceNeg,↓reduceIte,reduceCtorEq,scL,scD,expand,List.replicate,c47])|apply gC_drawW|((first|apply gI_dec|apply gG_dec|apply gPG_dec|apply gI_var|apply gG_var|apply gPG_var)<;>intro _))
 refine callV_of (by rw[hC];exact splitSeq0_p w n l c) rfl rfl rfl ?_
 repeat' (first|(simp (disch:=first|omega|assumption|exact bd (by with_unfolding_all rfl)|exact Or.inl rfl|exact Or.inl trivial|exact okL_map _ (fun _=>rfl) _|(simp only[VVlen]<;>omega)|fail) only[VV0,VV1,VV2,VV3,VV4,VV5,VV6,VV7,VV8,VV9,mkFnV,vargs,slotsL,opdsA,Nat.reduceEqDiff,Nat.reduceLT,Nat.reduceAdd,Nat.reduceBEq,Int.reduceAdd,Int.reduceSub,Int.reduceLT,Int.reduceLE,Int.reduceEq,Int.reduceNeg,↓reduceIte,reduceCtorEq,scL,scD,expand,List.replicate,vsh,vshL,shH,shO,fzSL,fzS])|apply gC_drawW|((first|apply gI_dec|apply gG_dec|apply gPG_dec|apply gI_var|apply gG_var|apply gPG_var)<;>intro _))
 exact weak_to [(2,2),(1,1),(0,0)] 3 hn rfl rfl rfl rfl
end
theorem split_iter {C':Ctx} {E:Env} {a b:AC} {fr:VFr} {ps:List Nat} {d oP oS oV:Nat} {c:UInt8} {s:List UInt8} (w:World) (n:Nat) (J:List (List UInt8)→List UInt8→VSt→Prop) (S:VSt→Prop) {P:VPost}
  (hE:C'.E.pcall=(EN w (n+4)).pcall) (hO:C'.E.old=oldOf w) (hr:C'.E.rounds=many) (hl:s.length≤1000000) (hT:∀ xs st Q,RoundV E a b fr ps d xs st Q→CallT C' d xs st Q)
  (hbox:∀ dn r st,J dn r st→aget st.own oS=some (sBox r)∧aget st.own oP=some (sBox [c])∧aget st.own oV=some (.box 3 1 [.sc (.int .i64 0)])∧st.ro≤oS)
  (hround:∀ dn r x ws st (Q:V→VSt→Prop),words c s=dn++words c r→words c r=x::ws→J dn r st→(∀ st',J (dn++ [x]) r st'→Q (.sc (.bool true)) st')→(∀ st',S st'→Q (.sc (.bool false)) st')→RoundV E a b fr ps d [strV x] st Q)
  (hset:∀ dn r r' st,J dn r st→J dn r' ⟨aset st.own oS (sBox r'),st.next,st.ro⟩)
  (hend:∀ fr st r,J (words c s) r st→P .normal fr st) (hstop:∀ ex fr st,(∀ i,ex ≠ .exit i)→S st→P ex fr st) (st0:VSt) (h0:J [] s st0):
  gC C' c65.code [] (vargs 0 [.tok d,.ptr oP 0,.ptr oS 0,.ptr oV 0]) st0 P:=by
 obtain ⟨k1,k2,k3,k4⟩:=hbox _ _ _ h0
 have h1:(ByteArray.mk [c].toArray).size=1:=rfl
 have h1i:((1:Nat):Int)=1:=rfl
 have hidx:∀ (st:VSt) (r:List UInt8),r.length≤1000000→VSpecO C'.E 67 st [strV r,strV [c]] (.sc (.int .i64 (idxB c r))):=fun st r hr=>((index_p w n r c (by omega)).flat rfl rfl).env hE hO
 repeat' (first|(simp (disch:=first|omega|assumption|exact bd (by with_unfolding_all rfl)|exact Or.inl rfl|exact Or.inl trivial|exact okL_map _ (fun _=>rfl) _|(simp only[VVlen]<;>omega)|fail) only[VV0,VV1,VV2,VV3,VV4,VV5,VV6,VV7,VV8,VV9,mkFnV,vargs,slotsL,opdsA,Nat.reduceEqDiff,Nat.reduceLT,Nat.reduceAdd,Nat.reduceBEq,Int.reduceAdd,Int.reduceSub,Int.reduceLT,Int.reduceLE,Int.reduceEq,Int.reduceNeg,↓reduceIte,reduceCtorEq,scL,scD,expand,List.replicate,c65,k2,h1,h1i])|apply gC_drawW|((first|apply gI_dec|apply gG_dec|apply gPG_dec|apply gI_var|apply gG_var|apply gPG_var)<;>intro _))
 all_goals try (exfalso;omega)
 refine g_while (fun m fr st=>∃ dn r,m=r.length∧r.length≤1000000∧words c s=dn++words c r∧J dn r st∧fr= [(0,.tok d),(1,.ptr oP 0),(2,.ptr oS 0),(3,.ptr oV 0)]) s.length ?_ ⟨_,_,weak_akeep [0,1,2,3] rfl,[],s,rfl,hl,rfl,h0,rfl⟩ ?_
 ·rw[hr];unfold many;omega
 rintro _ fr1 st ⟨dn,r,rfl,hrl,hw,hJ,rfl⟩
 obtain ⟨k1,k2,k3,k4⟩:=hbox _ _ _ hJ
 rcases byte_split c r with hf|⟨x,r',rfl,hf⟩
 ·have hi:=idxB_free hf
  repeat' (first|(simp (disch:=first|omega|assumption|exact bd (by with_unfolding_all rfl)|exact Or.inl rfl|exact Or.inl trivial|exact okL_map _ (fun _=>rfl) _|(simp only[VVlen]<;>omega)|fail) only[VV0,VV1,VV2,VV3,VV4,VV5,VV6,VV7,VV8,VV9,mkFnV,vargs,slotsL,opdsA,Nat.reduceEqDiff,Nat.reduceLT,Nat.reduceAdd,Nat.reduceBEq,Int.reduceAdd,Int.reduceSub,Int.reduceLT,Int.reduceLE,Int.reduceEq,Int.reduceNeg,↓reduceIte,reduceCtorEq,scL,scD,expand,List.replicate,c65l0,k1,k2,k3])|apply gC_drawW|((first|apply gI_dec|apply gG_dec|apply gPG_dec|apply gI_var|apply gG_var|apply gPG_var)<;>intro _))
  refine callV_flat (hidx _ r hrl) ?_
  rw[hi]
  repeat' (first|(simp (disch:=first|omega|assumption|exact bd (by with_unfolding_all rfl)|exact Or.inl rfl|exact Or.inl trivial|exact okL_map _ (fun _=>rfl) _|(simp only[VVlen]<;>omega)|fail) only[VV0,VV1,VV2,VV3,VV4,VV5,VV6,VV7,VV8,VV9,mkFnV,vargs,slotsL,opdsA,Nat.reduceEqDiff,Nat.reduceLT,Nat.reduceAdd,Nat.reduceBEq,Int.reduceAdd,Int.reduceSub,Int.reduceLT,Int.reduceLE,Int.reduceEq,Int.reduceNeg,↓reduceIte,reduceCtorEq,scL,scD,expand,List.replicate,k1,k2,k3])|apply gC_drawW|((first|apply gI_dec|apply gG_dec|apply gPG_dec|apply gI_var|apply gG_var|apply gPG_var)<;>intro _))
  all_goals try (exfalso;omega)
  have hwr:=words_free hf
  refine hT _ _ _ (hround dn r r [] st _ hw hwr hJ (fun st' hJ'=>?_) (fun st' hS=>?_))
  ·repeat' (first|(simp (disch:=first|omega|assumption|exact bd (by with_unfolding_all rfl)|exact Or.inl rfl|exact Or.inl trivial|exact okL_map _ (fun _=>rfl) _|(simp only[VVlen]<;>omega)|fail) only[VV0,VV1,VV2,VV3,VV4,VV5,VV6,VV7,VV8,VV9,mkFnV,vargs,slotsL,opdsA,Nat.reduceEqDiff,Nat.reduceLT,Nat.reduceAdd,Nat.reduceBEq,Int.reduceAdd,Int.reduceSub,Int.reduceLT,Int.reduceLE,Int.reduceEq,Int.reduceNeg,↓reduceIte,reduceCtorEq,scL,scD,expand,List.replicate])|apply gC_drawW|((first|apply gI_dec|apply gG_dec|apply gPG_dec|apply gI_var|apply gG_var|apply gPG_var)<;>intro _))
   exact hend _ _ r (by rw[hw,hwr];exact hJ')
  ·repeat' (first|(simp (disch:=first|omega|assumption|exact bd (by with_unfolding_all rfl)|exact Or.inl rfl|exact Or.inl trivial|exact okL_map _ (fun _=>rfl) _|(simp only[VVlen]<;>omega)|fail) only[VV0,VV1,VV2,VV3,VV4,VV5,VV6,VV7,VV8,VV9,mkFnV,vargs,slotsL,opdsA,Nat.reduceEqDiff,Nat.reduceLT,Nat.reduceAdd,Nat.reduceBEq,Int.reduceAdd,Int.reduceSub,Int.reduceLT,Int.reduceLE,Int.reduceEq,Int.reduceNeg,↓reduceIte,reduceCtorEq,scL,scD,expand,List.replicate])|apply gC_drawW|((first|apply gI_dec|apply gG_dec|apply gPG_dec|apply gI_var|apply gG_var|apply gPG_var)<;>intro _))
   exact hstop _ _ _ (fun i h=>by cases h) hS
 ·have hi:=idxB_app r' hf
  have hlen:(x++c::r').length=x.length+r'.length+1:=by simp;omega
  have hwr:=words_app r' hf
  have e1:=slcS_hi (x++c::r') .i64 x.length (by omega) (by rw[hlen];omega)
  have e2:=slcS_lo (x++c::r') .i64 ((x.length:Int)+1) (by omega) (by rw[hlen];omega)
  rw[Int.toNat_natCast,List.take_left] at e1
  rw[show ((x.length:Int)+1).toNat=x.length+1 by omega,show (x++c::r').drop (x.length+1)=r' by rw[← List.drop_drop];simp] at e2
  repeat' (first|(simp (disch:=first|omega|assumption|exact bd (by with_unfolding_all rfl)|exact Or.inl rfl|exact Or.inl trivial|exact okL_map _ (fun _=>rfl) _|(simp only[VVlen]<;>omega)|fail) only[VV0,VV1,VV2,VV3,VV4,VV5,VV6,VV7,VV8,VV9,mkFnV,vargs,slotsL,opdsA,Nat.reduceEqDiff,Nat.reduceLT,Nat.reduceAdd,Nat.reduceBEq,Int.reduceAdd,Int.reduceSub,Int.reduceLT,Int.reduceLE,Int.reduceEq,Int.reduceNeg,↓reduceIte,reduceCtorEq,scL,scD,expand,List.replicate,c65l0,k1,k2,k3])|apply gC_drawW|((first|apply gI_dec|apply gG_dec|apply gPG_dec|apply gI_var|apply gG_var|apply gPG_var)<;>intro _))
  refine callV_flat (hidx _ _ hrl) ?_
  rw[hi]
  repeat' (first|(simp (disch:=first|omega|assumption|exact bd (by with_unfolding_all rfl)|exact Or.inl rfl|exact Or.inl trivial|exact okL_map _ (fun _=>rfl) _|(simp only[VVlen]<;>omega)|fail) only[VV0,VV1,VV2,VV3,VV4,VV5,VV6,VV7,VV8,VV9,mkFnV,vargs,slotsL,opdsA,Nat.reduceEqDiff,Nat.reduceLT,Nat.reduceAdd,Nat.reduceBEq,Int.reduceAdd,Int.reduceSub,Int.reduceLT,Int.reduceLE,Int.reduceEq,Int.reduceNeg,↓reduceIte,reduceCtorEq,scL,scD,expand,List.replicate,k1,k2,k3,e1,Int.add_zero])|apply gC_drawW|((first|apply gI_dec|apply gG_dec|apply gPG_dec|apply gI_var|apply gG_var|apply gPG_var)<;>intro _))
  all_goals try (exfalso;omega)
  refine hT _ _ _ (hround dn _ x (words c r') _ _ hw hwr hJ (fun st' hJ'=>?_) (fun st' hS=>?_))
  ·obtain ⟨k1,k2,k3,k4⟩:=hbox _ _ _ hJ'
   repeat' (first|(simp (disch:=first|omega|assumption|exact bd (by with_unfolding_all rfl)|exact Or.inl rfl|exact Or.inl trivial|exact okL_map _ (fun _=>rfl) _|(simp only[VVlen]<;>omega)|fail) only[VV0,VV1,VV2,VV3,VV4,VV5,VV6,VV7,VV8,VV9,mkFnV,vargs,slotsL,opdsA,Nat.reduceEqDiff,Nat.reduceLT,Nat.reduceAdd,Nat.reduceBEq,Int.reduceAdd,Int.reduceSub,Int.reduceLT,Int.reduceLE,Int.reduceEq,Int.reduceNeg,↓reduceIte,reduceCtorEq,scL,scD,expand,List.replicate,k1,k2,k3,h1,h1i,e2])|apply gC_drawW|((first|apply gI_dec|apply gG_dec|apply gPG_dec|apply gI_var|apply gG_var|apply gPG_var)<;>intro _))
   refine ⟨_,_,_,?_,.refl _ _,dn++ [x],r',rfl,by omega,?_,hset _ _ r' _ hJ',rfl⟩
   ·rw[hlen];omega
   ·rw[hw,hwr];simp
  ·repeat' (first|(simp (disch:=first|omega|assumption|exact bd (by with_unfolding_all rfl)|exact Or.inl rfl|exact Or.inl trivial|exact okL_map _ (fun _=>rfl) _|(simp only[VVlen]<;>omega)|fail) only[VV0,VV1,VV2,VV3,VV4,VV5,VV6,VV7,VV8,VV9,mkFnV,vargs,slotsL,opdsA,Nat.reduceEqDiff,Nat.reduceLT,Nat.reduceAdd,Nat.reduceBEq,Int.reduceAdd,Int.reduceSub,Int.reduceLT,Int.reduceLE,Int.reduceEq,Int.reduceNeg,↓reduceIte,reduceCtorEq,scL,scD,expand,List.replicate])|apply gC_drawW|((first|apply gI_dec|apply gG_dec|apply gPG_dec|apply gI_var|apply gG_var|apply gPG_var)<;>intro _))
   exact hstop _ _ _ (fun i h=>by cases h) hS
end Go.Proofs.YtgglaaldlegckaaDoor
namespace Go.Proofs.YtgglaaldlegckaaDoor
open Go Go.Itp
set_option maxRecDepth 100000
set_option maxHeartbeats 1000000
set_option linter.unusedSimpArgs false
set_option linter.unusedVariables false
def okW (p:Int × Int):Prop:=(1≤p.1∧p.1≤4000)∧0≤p.2∧p.2≤15
def okP (prev:Option Int) (p:Int × Int):Prop:=okW p∧prev ≠ some p.2
instance (prev:Option Int) (p:Int × Int):Decidable (okP prev p):=by unfold okP okW;exact inferInstance
def expL (R:List (Int × Int)):List Int:=R.flatMap fun p=>List.replicate p.1.toNat p.2
def sumR (R:List (Int × Int)):Int:=(R.map (·.1)).sum
instance (p:Int × Int):Decidable (okW p):=by unfold okW;exact inferInstance
def expF (R:List (Int × Int)):List Int × Int:=if ∀ p ∈ R,okW p then (if sumR R≤4000 then (expL R,0) else ([],4)) else ([],8)
theorem expL_snoc (R:List (Int × Int)) (p:Int × Int):expL (R++ [p])=expL R++List.replicate p.1.toNat p.2:=by simp[expL]
end Go.Proofs.YtgglaaldlegckaaDoor
namespace Go.Proofs.YtgglaaldlegckaaDoor
open Go Go.Itp
set_option maxRecDepth 100000
set_option maxHeartbeats 1000000
set_option linter.unusedSimpArgs false
set_option linter.unusedVariables false
theorem sumR_take (R:List (Int × Int)) (k:Nat) (hk:k<R.length):sumR (R.take (k+1))=sumR (R.take k)+R[k]!.1:=by
 rw[List.take_succ_eq_append_getElem hk,getElem!_pos R k hk]
 simp only[sumR,List.map_append,List.map_cons,List.map_nil,List.sum_append,List.sum_cons,List.sum_nil,Int.add_zero]
theorem sumR_cons (p:Int × Int) (R:List (Int × Int)):sumR (p::R)=p.1+sumR R:=by simp[sumR]
theorem sumR_nn:∀ {R:List (Int × Int)},(∀ p ∈ R,okW p)→0≤sumR R∧((expL R).length:Int)=sumR R
 | [],_=>by simp[sumR,expL]
 |p::R,h=>by
  obtain ⟨h1,h2⟩:=sumR_nn (R:=R) fun q hq=>h q (List.mem_cons_of_mem _ hq)
  have:=(h p (by simp)).1
  rw[sumR_cons]
  have e:expL (p::R)=List.replicate p.1.toNat p.2++expL R:=by simp[expL]
  rw[e,List.length_append,List.length_replicate]
  omega
theorem sumR_mono {R:List (Int × Int)} (h:∀ p ∈ R,okW p) (k:Nat):sumR (R.take k)≤sumR R:=by
 have e:sumR R=sumR (R.take k)+sumR (R.drop k):=by
  conv=>lhs;rw[← List.take_append_drop k R]
  simp only[sumR,List.map_append,List.sum_append]
 have:=(sumR_nn (R:=R.drop k) fun q hq=>h q (List.mem_of_mem_drop hq)).1
 omega
theorem expL_take (R:List (Int × Int)) (k:Nat) (hk:k<R.length):expL (R.take (k+1))=expL (R.take k)++List.replicate R[k]!.1.toNat R[k]!.2:=by
 rw[List.take_succ_eq_append_getElem hk,getElem!_pos R k hk,expL_snoc]
theorem rep_stTo (c:Int) (q:Nat):stTo (repF [c]) q q=List.replicate q c:=by
 rw[stTo_end]
 refine List.ext_getElem (by simp) fun i h1 h2=>?_
 simp[repF,Nat.mod_one]
theorem okW_iff {N c:Int}:okW (N,c)↔¬ N<1∧¬ 4000<N∧col c=true:=by
 unfold okW col
 simp only[Bool.and_eq_true,decide_eq_true_eq]
 omega
section
variable (w:World) (n:Nat)
theorem expand_p (s:Nat) (R:List (Int × Int)) (hl:R.length≤1000000):VSpec (EN w (n+4)) 28 [.sl s R.length (runC R)] (sl2 (expF R)) ⟨[],0,0⟩:=by
 refine vspec_g rfl rfl (fun _ _=>rfl) (Nat.le_of_ble_eq_true rfl) (oldVals w) retOK_fin rfl fun C hC hn=>?_
 have hcl:=runC_len R
 repeat' (first|(simp (disch:=first|omega|assumption|exact bd (by with_unfolding_all rfl)|exact Or.inl rfl|exact Or.inl trivial|exact okL_map _ (fun _=>rfl) _|(simp only[VVlen]<;>omega)|fail) only[VV0,VV1,VV2,VV3,VV4,VV5,VV6,VV7,VV8,VV9,mkFnV,vargs,slotsL,opdsA,Nat.reduceEqDiff,Nat.reduceLT,Nat.reduceAdd,Nat.reduceBEq,Int.reduceAdd,Int.reduceSub,Int.reduceLT,Int.reduceLE,Int.reduceEq,Int.reduceNeg,↓reduceIte,reduceCtorEq,scL,scD,expand,List.replicate,c28])|apply gC_drawW|((first|apply gI_dec|apply gG_dec|apply gPG_dec|apply gI_var|apply gG_var|apply gPG_var)<;>intro _))
 refine g_while (fun m fr st=>∃ k:Nat,m=R.length - k∧k≤R.length∧(∀ j,j<k→okW R[j]!)∧fr= [(0,.sl s R.length (runC R)),(9,.sl s R.length (runC R)),(10,.sc (.int .i64 R.length)),(11,.sc (.int .i64 k))]∧st=⟨[],0,0⟩) R.length ?_ ⟨_,_,.refl _ _,0,?_⟩ ?_
 ·rw[hC,callP_rounds];unfold many;omega
 ·exact ⟨by omega,by omega,(fun j hj=>absurd hj (Nat.not_lt_zero _)),rfl,rfl⟩
 ·rintro m fr st ⟨k,rfl,hk,hok,rfl,rfl⟩
  by_cases hlt:k<R.length
  ·have hag:=runC_agg R k hlt
   by_cases hw:okW R[k]!
   ·have hnx:∀ j,j<k+1→okW R[j]! :=fun j hj=>by
     rcases Nat.lt_succ_iff_lt_or_eq.1 hj with h|h
     ·exact hok j h
     ·subst h;exact hw
    generalize R[k]! =p at hag hw
    obtain ⟨N,c⟩:=p
    obtain ⟨w1,w2,w3⟩:=okW_iff.1 hw
    repeat' (first|(simp (disch:=first|omega|assumption|exact bd (by with_unfolding_all rfl)|exact Or.inl rfl|exact Or.inl trivial|exact okL_map _ (fun _=>rfl) _|(simp only[VVlen]<;>omega)|fail) only[VV0,VV1,VV2,VV3,VV4,VV5,VV6,VV7,VV8,VV9,mkFnV,vargs,slotsL,opdsA,Nat.reduceEqDiff,Nat.reduceLT,Nat.reduceAdd,Nat.reduceBEq,Int.reduceAdd,Int.reduceSub,Int.reduceLT,Int.reduceLE,Int.reduceEq,Int.reduceNeg,↓reduceIte,reduceCtorEq,scL,scD,expand,List.replicate,c28l1,hag])|apply gC_drawW|((first|apply gI_dec|apply gG_dec|apply gPG_dec|apply gI_var|apply gG_var|apply gPG_var)<;>intro _))
    all_goals try (exfalso;omega)
    refine callV_flat ((colour_p w (n+2) c).of hC rfl _ rfl) ?_
    rw[w3]
    repeat' (first|(simp (disch:=first|omega|assumption|exact bd (by with_unfolding_all rfl)|exact Or.inl rfl|exact Or.inl trivial|exact okL_map _ (fun _=>rfl) _|(simp only[VVlen]<;>omega)|fail) only[VV0,VV1,VV2,VV3,VV4,VV5,VV6,VV7,VV8,VV9,mkFnV,vargs,slotsL,opdsA,Nat.reduceEqDiff,Nat.reduceLT,Nat.reduceAdd,Nat.reduceBEq,Int.reduceAdd,Int.reduceSub,Int.reduceLT,Int.reduceLE,Int.reduceEq,Int.reduceNeg,↓reduceIte,reduceCtorEq,scL,scD,expand,List.replicate])|apply gC_drawW|((first|apply gI_dec|apply gG_dec|apply gPG_dec|apply gI_var|apply gG_var|apply gPG_var)<;>intro _))
    exact ⟨_,_,_,by omega,weak_to [] 0 hn rfl rfl rfl rfl,k+1,rfl,hlt,hnx,rfl,rfl⟩
   ·have e:expF R=([],8):=if_neg fun h=>hw (h _ (by rw[getElem!_pos R k hlt];exact List.getElem_mem hlt))
    rw[e]
    generalize R[k]! =p at hag hw
    obtain ⟨N,c⟩:=p
    by_cases w1:N<1
    ·repeat' (first|(simp (disch:=first|omega|assumption|exact bd (by with_unfolding_all rfl)|exact Or.inl rfl|exact Or.inl trivial|exact okL_map _ (fun _=>rfl) _|(simp only[VVlen]<;>omega)|fail) only[VV0,VV1,VV2,VV3,VV4,VV5,VV6,VV7,VV8,VV9,mkFnV,vargs,slotsL,opdsA,Nat.reduceEqDiff,Nat.reduceLT,Nat.reduceAdd,Nat.reduceBEq,Int.reduceAdd,Int.reduceSub,Int.reduceLT,Int.reduceLE,Int.reduceEq,Int.reduceNeg,↓reduceIte,reduceCtorEq,scL,scD,expand,List.replicate,c28l1,hag])|apply gC_drawW|((first|apply gI_dec|apply gG_dec|apply gPG_dec|apply gI_var|apply gG_var|apply gPG_var)<;>intro _))
     all_goals try (exfalso;omega)
     exact weak_finNil hn rfl
    by_cases w2:4000<N
    ·repeat' (first|(simp (disch:=first|omega|assumption|exact bd (by with_unfolding_all rfl)|exact Or.inl rfl|exact Or.inl trivial|exact okL_map _ (fun _=>rfl) _|(simp only[VVlen]<;>omega)|fail) only[VV0,VV1,VV2,VV3,VV4,VV5,VV6,VV7,VV8,VV9,mkFnV,vargs,slotsL,opdsA,Nat.reduceEqDiff,Nat.reduceLT,Nat.reduceAdd,Nat.reduceBEq,Int.reduceAdd,Int.reduceSub,Int.reduceLT,Int.reduceLE,Int.reduceEq,Int.reduceNeg,↓reduceIte,reduceCtorEq,scL,scD,expand,List.replicate,c28l1,hag])|apply gC_drawW|((first|apply gI_dec|apply gG_dec|apply gPG_dec|apply gI_var|apply gG_var|apply gPG_var)<;>intro _))
     all_goals try (exfalso;omega)
     exact weak_finNil hn rfl
    have w3:col c=false:=by
     cases h:col c
     ·rfl
     ·exact absurd (okW_iff.2 ⟨w1,w2,h⟩) hw
    repeat' (first|(simp (disch:=first|omega|assumption|exact bd (by with_unfolding_all rfl)|exact Or.inl rfl|exact Or.inl trivial|exact okL_map _ (fun _=>rfl) _|(simp only[VVlen]<;>omega)|fail) only[VV0,VV1,VV2,VV3,VV4,VV5,VV6,VV7,VV8,VV9,mkFnV,vargs,slotsL,opdsA,Nat.reduceEqDiff,Nat.reduceLT,Nat.reduceAdd,Nat.reduceBEq,Int.reduceAdd,Int.reduceSub,Int.reduceLT,Int.reduceLE,Int.reduceEq,Int.reduceNeg,↓reduceIte,reduceCtorEq,scL,scD,expand,List.replicate,c28l1,hag])|apply gC_drawW|((first|apply gI_dec|apply gG_dec|apply gPG_dec|apply gI_var|apply gG_var|apply gPG_var)<;>intro _))
    all_goals try (exfalso;omega)
    refine callV_flat ((colour_p w (n+2) c).of hC rfl _ rfl) ?_
    rw[w3]
    repeat' (first|(simp (disch:=first|omega|assumption|exact bd (by with_unfolding_all rfl)|exact Or.inl rfl|exact Or.inl trivial|exact okL_map _ (fun _=>rfl) _|(simp only[VVlen]<;>omega)|fail) only[VV0,VV1,VV2,VV3,VV4,VV5,VV6,VV7,VV8,VV9,mkFnV,vargs,slotsL,opdsA,Nat.reduceEqDiff,Nat.reduceLT,Nat.reduceAdd,Nat.reduceBEq,Int.reduceAdd,Int.reduceSub,Int.reduceLT,Int.reduceLE,Int.reduceEq,Int.reduceNeg,↓reduceIte,reduceCtorEq,scL,scD,expand,List.replicate])|apply gC_drawW|((first|apply gI_dec|apply gG_dec|apply gPG_dec|apply gI_var|apply gG_var|apply gPG_var)<;>intro _))
    exact weak_finNil hn rfl
  have:k=R.length:=by omega
  subst this
  have hall:∀ p ∈ R,okW p:=fun p hp=>by
   obtain ⟨i,hi,rfl⟩:=List.getElem_of_mem hp
   have:=hok i hi
   rw[getElem!_pos R i hi] at this
   exact this
  have e:expF R=if sumR R≤4000 then (expL R,0) else ([],4):=if_pos hall
  have htk:∀ k,0≤sumR (R.take k)∧((expL (R.take k)).length:Int)=sumR (R.take k):=fun k=>sumR_nn fun p hp=>hall p (List.mem_of_mem_take hp)
  rw[e]
  repeat' (first|(simp (disch:=first|omega|assumption|exact bd (by with_unfolding_all rfl)|exact Or.inl rfl|exact Or.inl trivial|exact okL_map _ (fun _=>rfl) _|(simp only[VVlen]<;>omega)|fail) only[VV0,VV1,VV2,VV3,VV4,VV5,VV6,VV7,VV8,VV9,mkFnV,vargs,slotsL,opdsA,Nat.reduceEqDiff,Nat.reduceLT,Nat.reduceAdd,Nat.reduceBEq,Int.reduceAdd,Int.reduceSub,Int.reduceLT,Int.reduceLE,Int.reduceEq,Int.reduceNeg,↓reduceIte,reduceCtorEq,scL,scD,expand,List.replicate,c28l1])|apply gC_drawW|((first|apply gI_dec|apply gG_dec|apply gPG_dec|apply gI_var|apply gG_var|apply gPG_var)<;>intro _))
  all_goals try (exfalso;omega)
  refine g_while (fun m fr st=>∃ k:Nat,m=R.length - k∧k≤R.length∧sumR (R.take k)≤4000∧fr= [(6,.gr 2 0 (expL (R.take k)).length),(30,.sl s R.length (runC R)),(31,.sc (.int .i64 R.length)),(32,.sc (.int .i64 k))]∧st=⟨[(0,.gro 3 1 false ((expL (R.take k)).map iD))],1,0⟩) R.length ?_ ⟨_,_,weak_nilSlot 6 3 1 rfl,0,?_⟩ ?_
  ·rw[hC,callP_rounds];unfold many;omega
  ·refine ⟨by omega,by omega,by simp[sumR],?_,?_⟩
   ·simp[expL,aput,Nat.beq,Nat.blt]
   ·simp[expL]
  ·rintro m fr st ⟨k,rfl,hk,hs4,rfl,rfl⟩
   by_cases hlt:k<R.length
   ·have hag:=runC_agg R k hlt
    have hw:=hall R[k]! (by rw[getElem!_pos R k hlt];exact List.getElem_mem hlt)
    have hst:=sumR_take R k hlt
    have hex:=expL_take R k hlt
    obtain ⟨t1,t2⟩:=htk k
    have hmo:=sumR_mono hall (k+1)
    generalize R[k]! =p at hag hw hst hex
    obtain ⟨N,c⟩:=p
    obtain ⟨w1,w2,w3⟩:=okW_iff.1 hw
    obtain ⟨q,rfl⟩:=Int.eq_ofNat_of_zero_le (show 0≤N by omega)
    simp only at hst hex
    by_cases hov:4000<sumR (R.take (k+1))
    ·have hno:¬ sumR R≤4000:=by omega
     rw[if_neg hno]
     repeat' (first|(simp (disch:=first|omega|assumption|exact bd (by with_unfolding_all rfl)|exact Or.inl rfl|exact Or.inl trivial|exact okL_map _ (fun _=>rfl) _|(simp only[VVlen]<;>omega)|fail) only[VV0,VV1,VV2,VV3,VV4,VV5,VV6,VV7,VV8,VV9,mkFnV,vargs,slotsL,opdsA,Nat.reduceEqDiff,Nat.reduceLT,Nat.reduceAdd,Nat.reduceBEq,Int.reduceAdd,Int.reduceSub,Int.reduceLT,Int.reduceLE,Int.reduceEq,Int.reduceNeg,↓reduceIte,reduceCtorEq,scL,scD,expand,List.replicate,c28l0,hag])|apply gC_drawW|((first|apply gI_dec|apply gG_dec|apply gPG_dec|apply gI_var|apply gG_var|apply gPG_var)<;>intro _))
     all_goals try (exfalso;omega)
     exact weak_finNil hn rfl
    ·have hrp:=repeat_p w n 0 [c] q (by simp) (by simp) (by omega) (by simp;omega)
     rw[List.length_singleton,Nat.one_mul,rep_stTo] at hrp
     repeat' (first|(simp (disch:=first|omega|assumption|exact bd (by with_unfolding_all rfl)|exact Or.inl rfl|exact Or.inl trivial|exact okL_map _ (fun _=>rfl) _|(simp only[VVlen]<;>omega)|fail) only[VV0,VV1,VV2,VV3,VV4,VV5,VV6,VV7,VV8,VV9,mkFnV,vargs,slotsL,opdsA,Nat.reduceEqDiff,Nat.reduceLT,Nat.reduceAdd,Nat.reduceBEq,Int.reduceAdd,Int.reduceSub,Int.reduceLT,Int.reduceLE,Int.reduceEq,Int.reduceNeg,↓reduceIte,reduceCtorEq,scL,scD,expand,List.replicate,c28l0,hag])|apply gC_drawW|((first|apply gI_dec|apply gG_dec|apply gPG_dec|apply gI_var|apply gG_var|apply gPG_var)<;>intro _))
     all_goals try (exfalso;omega)
     refine callV_of (by rw[hC];exact hrp) rfl rfl rfl ?_
     have hrl:((List.replicate q c).map iD).length=q*1:=by simp
     have hxl:((expL (R.take k)).map iD).length=(expL (R.take k)).length*1:=by simp
     have hro:okL ((List.replicate q c).map iD)=true:=okL_map _ (fun _=>rfl) _
     have hq1:(1:Int)≤q:=by omega
     repeat' (first|(simp (disch:=first|omega|assumption|exact bd (by with_unfolding_all rfl)|exact Or.inl rfl|exact Or.inl trivial|exact okL_map _ (fun _=>rfl) _|(simp only[VVlen]<;>omega)|fail) only[VV0,VV1,VV2,VV3,VV4,VV5,VV6,VV7,VV8,VV9,mkFnV,vargs,slotsL,opdsA,Nat.reduceEqDiff,Nat.reduceLT,Nat.reduceAdd,Nat.reduceBEq,Int.reduceAdd,Int.reduceSub,Int.reduceLT,Int.reduceLE,Int.reduceEq,Int.reduceNeg,↓reduceIte,reduceCtorEq,scL,scD,expand,List.replicate,vsh,vshL,shH,shO,fzSL,fzS,hrl,hro])|apply gC_drawW|((first|apply gI_dec|apply gG_dec|apply gPG_dec|apply gI_var|apply gG_var|apply gPG_var)<;>intro _))
     rw[Int.toNat_natCast] at hex
     refine ⟨_,_,_,by omega,weak_to [(4,0)] 1 hn rfl rfl rfl rfl,k+1,rfl,hlt,by omega,?_,?_⟩
     ·rw[hex];simp[renF,vren,vrenL,aget_cons]
     ·rw[hex];simp[renH,aget_cons,renO]
   ·have:k=R.length:=by omega
    subst this
    rw[List.take_length] at hs4 ⊢
    rw[if_pos hs4]
    repeat' (first|(simp (disch:=first|omega|assumption|exact bd (by with_unfolding_all rfl)|exact Or.inl rfl|exact Or.inl trivial|exact okL_map _ (fun _=>rfl) _|(simp only[VVlen]<;>omega)|fail) only[VV0,VV1,VV2,VV3,VV4,VV5,VV6,VV7,VV8,VV9,mkFnV,vargs,slotsL,opdsA,Nat.reduceEqDiff,Nat.reduceLT,Nat.reduceAdd,Nat.reduceBEq,Int.reduceAdd,Int.reduceSub,Int.reduceLT,Int.reduceLE,Int.reduceEq,Int.reduceNeg,↓reduceIte,reduceCtorEq,scL,scD,expand,List.replicate,c28l0])|apply gC_drawW|((first|apply gI_dec|apply gG_dec|apply gPG_dec|apply gI_var|apply gG_var|apply gPG_var)<;>intro _))
    all_goals try (exfalso;omega)
    exact weak_fin (snap_ints rfl) rfl (.inl (by decide)) hn rfl
end
end Go.Proofs.YtgglaaldlegckaaDoor
namespace Go.Proofs.YtgglaaldlegckaaDoor
open Go Go.Itp
set_option maxRecDepth 100000
set_option maxHeartbeats 1000000
set_option linter.unusedSimpArgs false
set_option linter.unusedVariables false
section
variable (w:World) (n:Nat)
end
end Go.Proofs.YtgglaaldlegckaaDoor
namespace Go.Proofs.YtgglaaldlegckaaDoor
open Go Go.Itp
set_option maxRecDepth 100000
set_option maxHeartbeats 1000000
set_option linter.unusedSimpArgs false
set_option linter.unusedVariables false
section
variable (w:World) (n:Nat)
end
end Go.Proofs.YtgglaaldlegckaaDoor
namespace Go.Proofs.YtgglaaldlegckaaDoor
open Go Go.Itp
set_option maxRecDepth 100000
set_option maxHeartbeats 2000000
set_option linter.unusedSimpArgs false
set_option linter.unusedVariables false
section
variable (w:World) (n:Nat)
end
end Go.Proofs.YtgglaaldlegckaaDoor
namespace Go.Proofs.YtgglaaldlegckaaDoor
open Go Go.Itp
set_option maxRecDepth 100000
set_option maxHeartbeats 2000000
set_option linter.unusedSimpArgs false
set_option linter.unusedVariables false
def numA (l:List UInt8):Option Int:=match Lib.atoiAll l with
 | .ok v=>some v
 |_=>none
theorem numA_ok {l:List UInt8} {v:Int} (h:numA l=some v):Lib.atoiAll l= .ok v:=by
 unfold numA at h
 split at h
 ·rename_i u hu;cases h;exact hu
 ·cases h
theorem numA_none {l:List UInt8} (h:numA l=none) (v:Int):Lib.atoiAll l ≠ .ok v:=by
 intro e
 unfold numA at h
 rw[e] at h
 cases h
def readW (x:List UInt8):Option (Int × Int):=if (cutB 120 x).2.2=true then (numA (cutB 120 x).1).bind fun n=>(numA (cutB 120 x).2.1).map fun c=>(n,c) else none
def parseA:List (List UInt8)→Option (List (Int × Int))
 | []=>some []
 |x::ws=>(readW x).bind fun p=>(parseA ws).map (p::·)
theorem parseA_append:∀ {a:List (List UInt8)} {Q:List (Int × Int)} (ws:List (List UInt8)),parseA a=some Q→parseA (a++ws)=(parseA ws).map (Q++·)
 | [],Q,ws,h=>by
  simp only[parseA,Option.some.injEq] at h;subst h
  simp
 |x::a,Q,ws,h=>by
  simp only[parseA,Option.bind_eq_some_iff,Option.map_eq_some_iff] at h
  obtain ⟨p,h1,R,h2,rfl⟩:=h
  simp only[List.cons_append,parseA,h1,Option.bind_some,parseA_append ws h2]
  cases parseA ws<;>rfl
theorem parseA_len:∀ {a:List (List UInt8)} {Q:List (Int × Int)},parseA a=some Q→Q.length=a.length
 | [],Q,h=>by simp only[parseA,Option.some.injEq] at h;subst h;rfl
 |x::a,Q,h=>by
  simp only[parseA,Option.bind_eq_some_iff,Option.map_eq_some_iff] at h
  obtain ⟨p,h1,R,h2,rfl⟩:=h
  simp[parseA_len h2]
theorem cut_len (x:List UInt8):(cutB 120 x).1.length≤x.length∧(cutB 120 x).2.1.length≤x.length:=by
 unfold cutB
 split
 ·simp;omega
 ·simp
def pparseF (s:List UInt8):List Int × Int:=
 if s= [] then ([],0) else match parseA (words 32 s) with
  |none=>([],12)
  |some R=>if (expF R).2 ≠ 0 then ([],12) else if (textF (expF R).1).1=s then ((expF R).1,0) else ([],12)
abbrev baseV (g:Nat) (Q:List (Int × Int)) (r:List UInt8) (c:Int):VHp:=
 [(g,.gro 58 2 false (runC Q)),(5,.box 3 1 [.sc (.int .i64 0)]),(4,sBox [32]),(3,sBox r),(2,.box 24 1 [.gr 2 g Q.length]),(1,.box 25 1 [.sc (.int .i64 c)]),(0,.box 22 1 [.sc (.slice none 0 0)])]
theorem snapR (g t:Nat) (Q:List (Int × Int)) (R:VHp):snapL ((g,.gro t 2 false (runC Q))::R) [.gr 2 g Q.length]=some [.sl 2 Q.length (runC Q)]:=by
 have h:aget ((g,.gro t 2 false (runC Q))::R) g=some (.gro t 2 false (runC Q)):=by rw[aget_cons,if_pos rfl]
 simp only[snapL,snap_runs Q h,Option.bind_some,Option.map_some]
def rngA:AC:=
 (.ops [⟨(some 5),none,.mov (.tmp 21)⟩] [2,3,4,5])
def rngB:AC:=
 (.block 1
    (.seq (.ops [⟨(some 23),none,.mov (.tmp 5)⟩,
      ⟨(some 24),none,.callF 48 [(.tmp 23),(.const (.string ⟨#[120]⟩))]⟩,
      ⟨(some 22),none,.mov (.tmp 24)⟩,
      ⟨(some 25),none,.ext (.tmp 22) 0⟩,
      ⟨(some 26),none,.ext (.tmp 22) 1⟩,
      ⟨(some 27),none,.ext (.tmp 22) 2⟩,
      ⟨(some 6),none,.mov (.tmp 25)⟩,
      ⟨(some 7),none,.mov (.tmp 26)⟩,
      ⟨(some 8),none,.mov (.tmp 27)⟩] [2,3,4,6,7,8])
    (.seq (.ops [⟨(some 29),none,.mov (.tmp 6)⟩,
      ⟨(some 30),none,.callF 49 [(.tmp 29)]⟩,
      ⟨(some 28),none,.mov (.tmp 30)⟩,
      ⟨(some 31),none,.ext (.tmp 28) 0⟩,
      ⟨(some 32),none,.ext (.tmp 28) 1⟩,
      ⟨(some 9),none,.mov (.tmp 31)⟩,
      ⟨(some 10),none,.mov (.tmp 32)⟩] [2,3,4,7,8,9,10])
    (.seq (.ops [⟨(some 34),none,.mov (.tmp 7)⟩,
      ⟨(some 35),none,.callF 49 [(.tmp 34)]⟩,
      ⟨(some 33),none,.mov (.tmp 35)⟩,
      ⟨(some 36),none,.ext (.tmp 33) 0⟩,
      ⟨(some 37),none,.ext (.tmp 33) 1⟩,
      ⟨(some 11),none,.mov (.tmp 36)⟩,
      ⟨(some 12),none,.mov (.tmp 37)⟩] [2,3,4,8,9,10,11,12])
    (.seq (.seq (.ops [⟨(some 38),none,.mov (.tmp 8)⟩,
      ⟨(some 39),none,.un .not (.tmp 38)⟩,
      ⟨(some 40),none,.mov (.tmp 39)⟩,
      ⟨(some 41),(some (40,false)),.mov (.tmp 10)⟩,
      ⟨(some 42),(some (40,false)),.eqIf true true [2,3,5,6,12,21,25,97,105,108,115,155,156,158,159] (.tmp 41) (.const .nilIface)⟩,
      ⟨(some 43),none,.pick (.tmp 40) (.const (.bool true)) (.tmp 42)⟩,
      ⟨(some 44),none,.mov (.tmp 43)⟩,
      ⟨(some 45),(some (44,false)),.mov (.tmp 12)⟩,
      ⟨(some 46),(some (44,false)),.eqIf true true [2,3,5,6,12,21,25,97,105,108,115,155,156,158,159] (.tmp 45) (.const .nilIface)⟩,
      ⟨(some 47),none,.pick (.tmp 44) (.const (.bool true)) (.tmp 46)⟩] [2,3,4,9,11,47])
    (.cond (.tmp 47)
     (.seq (.ops [⟨none,none,.store 1 (.tmp 2) (.const (.slice none 0 0))⟩,
       ⟨none,none,.store 1 (.tmp 3) (.const (.int .i64 12))⟩] [])
     (.ret))
     (.skip)))
    (.ops [⟨(some 48),none,.load none (.tmp 4)⟩,
      ⟨(some 49),none,.mov (.tmp 9)⟩,
      ⟨(some 50),none,.mov (.tmp 11)⟩,
      ⟨(some 51),none,.build [(.int .i64 0),(.int .i64 0)] [(0,1,(.tmp 49)),(1,1,(.tmp 50))]⟩,
      ⟨(some 52),none,.mkRow 58 2 1 [(.int .i64 0),(.int .i64 0)] [(0,2,(.tmp 51))]⟩,
      ⟨(some 53),none,.app 58 2 16 (.tmp 48) (.tmp 52)⟩,
      ⟨none,none,.store 1 (.tmp 4) (.tmp 53)⟩] []))))))
section
variable (w:World) (n:Nat)
theorem atoi_any {C:Ctx} {st:VSt} {Q:V→VSt→Prop} (hC:C.E=EN w (n+1)) (l:List UInt8) (hl:l.length≤1000000) (hes:(errO Tryd.prog w "strconv.ErrSyntax").isSome=true) (her:(errO Tryd.prog w "strconv.ErrRange").isSome=true)
  (h1:∀ v,numA l=some v→Q (.tup [.sc (.int .i64 v),.sc .nilIface]) st)
  (h2:numA l=none→∀ (k:Int) (cs:List V),Q (.tup [.sc (.int .i64 k),.ifc 118 (.ptr st.next 0)]) ⟨(st.next,.box 132 1 cs)::st.own,st.next+1,st.ro⟩):CallV C 49 [strV l] st Q:=by
 have hs:(ByteArray.mk l.toArray).size≤281474976710656:=by rw[mk_size];omega
 cases hu:numA l with
 |some v=>exact callV_flat (by rw[hC];exact atoi_s w n _ ⟨l.toArray⟩ v hs (numA_ok hu)) (h1 v hu)
 |none=>
  obtain ⟨k,cs,sp⟩:=atoi_f w n ⟨l.toArray⟩ hs hes her (numA_none hu)
  refine callV_of (by rw[hC];exact sp) rfl rfl rfl ?_
  obtain ⟨H,nx,ro⟩:=st
  have:=h2 hu k (vshL nx (cs.map V.sc))
  simp only[vsh,vshL,shH,shO,fzSL,fzS,frozA_none,Nat.add_zero,Nat.zero_add,List.nil_append,List.cons_append] at this ⊢
  exact this
theorem parse_round {C:Ctx} (hC:C.E=EN w (n+7)) (hes:(errO Tryd.prog w "strconv.ErrSyntax").isSome=true) (her:(errO Tryd.prog w "strconv.ErrRange").isSome=true) (fr0:V) (x r:List UInt8) (hx:x.length≤100000) (g nx:Nat) (Q:List (Int × Int)) (hQl:Q.length≤200000)
  (g1:g ≠ 0) (g2:g ≠ 1) (g3:g ≠ 2) (g4:g ≠ 3) (g5:g ≠ 4) (g6:g ≠ 5) (g7:g ≠ 7) (g8:g<nx) (g9:7<nx) (Q2:V→VSt→Prop)
  (hgo:∀ p,readW x=some p→Q2 (.sc (.bool true)) ⟨(7,recO 0)::baseV (nx+1) (Q++ [p]) r 0,nx+2,0⟩)
  (hstop:readW x=none→∀ nx',nx≤nx'→Q2 (.sc (.bool false)) ⟨(7,recO (codeOf .ret))::baseV g Q r 12,nx',0⟩):
  RoundV C.E rngA rngB [(0,fr0),(2,.ptr 0 0),(3,.ptr 1 0),(4,.ptr 2 0)] [21] 7 [strV x] ⟨(7,recO 0)::baseV g Q r 0,nx,0⟩ Q2:=by
 have b1:¬ (7=nx):=by omega
 have b2:¬ (g=nx):=by omega
 have b3:¬ (5=nx):=by omega
 have b4:¬ (4=nx):=by omega
 have b5:¬ (3=nx):=by omega
 have b6:¬ (2=nx):=by omega
 have b7:¬ (1=nx):=by omega
 have b8:¬ (0=nx):=by omega
 have f1:=Ne.symm g1
 have f2:=Ne.symm g2
 have f3:=Ne.symm g3
 have f4:=Ne.symm g4
 have f5:=Ne.symm g5
 have f6:=Ne.symm g6
 have f7:=Ne.symm g7
 have hcl:=runC_len Q
 obtain ⟨hc1,hc2⟩:=cut_len x
 have hrd:readW x=if (cutB 120 x).2.2=true then (numA (cutB 120 x).1).bind fun n=>(numA (cutB 120 x).2.1).map fun c=>(n,c) else none:=rfl
 have hcut:∀ st,VSpecO C.E 48 st [strV x,strV [120]] (.tup [strV (cutB 120 x).1,strV (cutB 120 x).2.1,.sc (.bool (cutB 120 x).2.2)]):=fun st=>(cut_p w (n+2) x 120 (by omega)).of hC rfl st rfl
 generalize cutB 120 x=X at*
 obtain ⟨u,v,is⟩:=X
 simp only at hc1 hc2 hrd hcut
 refine ⟨Nat.zero_le _,rfl,g9,_,rfl,fun C4 h4c h4n=>?_⟩
 have hcs:C4.E=EN w (n+6+1):=h4c.trans hC
 repeat' (first|(simp (disch:=first|omega|assumption|exact bd (by with_unfolding_all rfl)|exact Or.inl rfl|exact Or.inl trivial|exact okL_map _ (fun _=>rfl) _|(simp only[VVlen]<;>omega)|fail) only[VV0,VV1,VV2,VV3,VV4,VV5,VV6,VV7,VV8,VV9,mkFnV,vargs,slotsL,opdsA,Nat.reduceEqDiff,Nat.reduceLT,Nat.reduceAdd,Nat.reduceBEq,Int.reduceAdd,Int.reduceSub,Int.reduceLT,Int.reduceLE,Int.reduceEq,Int.reduceNeg,↓reduceIte,reduceCtorEq,scL,scD,expand,List.replicate,rngA,eqIf_ifc,eqIf_nil,eqIfA_nn,b1,b2,b3,b4,b5,b6,b7,b8,g1,g2,g3,g4,g5,g6,g7,f1,f2,f3,f4,f5,f6,f7])|apply gC_drawW|((first|apply gI_dec|apply gG_dec|apply gPG_dec|apply gI_var|apply gG_var|apply gPG_var)<;>intro _))
 refine ⟨trivial,Nat.zero_le _,trivial,?_⟩
 repeat' (first|(simp (disch:=first|omega|assumption|exact bd (by with_unfolding_all rfl)|exact Or.inl rfl|exact Or.inl trivial|exact okL_map _ (fun _=>rfl) _|(simp only[VVlen]<;>omega)|fail) only[VV0,VV1,VV2,VV3,VV4,VV5,VV6,VV7,VV8,VV9,mkFnV,vargs,slotsL,opdsA,Nat.reduceEqDiff,Nat.reduceLT,Nat.reduceAdd,Nat.reduceBEq,Int.reduceAdd,Int.reduceSub,Int.reduceLT,Int.reduceLE,Int.reduceEq,Int.reduceNeg,↓reduceIte,reduceCtorEq,scL,scD,expand,List.replicate,rngB,eqIf_ifc,eqIf_nil,eqIfA_nn,b1,b2,b3,b4,b5,b6,b7,b8,g1,g2,g3,g4,g5,g6,g7,f1,f2,f3,f4,f5,f6,f7])|apply gC_drawW|((first|apply gI_dec|apply gG_dec|apply gPG_dec|apply gI_var|apply gG_var|apply gPG_var)<;>intro _))
 refine callV_flat (by rw[h4c];exact hcut _) ?_
 repeat' (first|(simp (disch:=first|omega|assumption|exact bd (by with_unfolding_all rfl)|exact Or.inl rfl|exact Or.inl trivial|exact okL_map _ (fun _=>rfl) _|(simp only[VVlen]<;>omega)|fail) only[VV0,VV1,VV2,VV3,VV4,VV5,VV6,VV7,VV8,VV9,mkFnV,vargs,slotsL,opdsA,Nat.reduceEqDiff,Nat.reduceLT,Nat.reduceAdd,Nat.reduceBEq,Int.reduceAdd,Int.reduceSub,Int.reduceLT,Int.reduceLE,Int.reduceEq,Int.reduceNeg,↓reduceIte,reduceCtorEq,scL,scD,expand,List.replicate,eqIf_ifc,eqIf_nil,eqIfA_nn,b1,b2,b3,b4,b5,b6,b7,b8,g1,g2,g3,g4,g5,g6,g7,f1,f2,f3,f4,f5,f6,f7])|apply gC_drawW|((first|apply gI_dec|apply gG_dec|apply gPG_dec|apply gI_var|apply gG_var|apply gPG_var)<;>intro _))
 have k1:¬ (7=nx+1):=by omega
 have k2:¬ (g=nx+1):=by omega
 have k3:¬ (5=nx+1):=by omega
 have k4:¬ (4=nx+1):=by omega
 have k5:¬ (3=nx+1):=by omega
 have k6:¬ (2=nx+1):=by omega
 have k7:¬ (1=nx+1):=by omega
 have k8:¬ (0=nx+1):=by omega
 by_cases his:is=true
 case neg=>
  rw[Bool.not_eq_true] at his
  refine atoi_any w (n+6) hcs u (by omega) hes her (fun vu hu=>?_) (fun hu ku cu=>?_)
  ·repeat' (first|(simp (disch:=first|omega|assumption|exact bd (by with_unfolding_all rfl)|exact Or.inl rfl|exact Or.inl trivial|exact okL_map _ (fun _=>rfl) _|(simp only[VVlen]<;>omega)|fail) only[VV0,VV1,VV2,VV3,VV4,VV5,VV6,VV7,VV8,VV9,mkFnV,vargs,slotsL,opdsA,Nat.reduceEqDiff,Nat.reduceLT,Nat.reduceAdd,Nat.reduceBEq,Int.reduceAdd,Int.reduceSub,Int.reduceLT,Int.reduceLE,Int.reduceEq,Int.reduceNeg,↓reduceIte,reduceCtorEq,scL,scD,expand,List.replicate,baseV,eqIf_ifc,eqIf_nil,eqIfA_nn,b1,b2,b3,b4,b5,b6,b7,b8,g1,g2,g3,g4,g5,g6,g7,f1,f2,f3,f4,f5,f6,f7,k1,k2,k3,k4,k5,k6,k7,k8,his])|apply gC_drawW|((first|apply gI_dec|apply gG_dec|apply gPG_dec|apply gI_var|apply gG_var|apply gPG_var)<;>intro _))
   refine atoi_any w (n+6) hcs v (by omega) hes her (fun vv hv=>?_) (fun hv kv cv=>?_)
   ·repeat' (first|(simp (disch:=first|omega|assumption|exact bd (by with_unfolding_all rfl)|exact Or.inl rfl|exact Or.inl trivial|exact okL_map _ (fun _=>rfl) _|(simp only[VVlen]<;>omega)|fail) only[VV0,VV1,VV2,VV3,VV4,VV5,VV6,VV7,VV8,VV9,mkFnV,vargs,slotsL,opdsA,Nat.reduceEqDiff,Nat.reduceLT,Nat.reduceAdd,Nat.reduceBEq,Int.reduceAdd,Int.reduceSub,Int.reduceLT,Int.reduceLE,Int.reduceEq,Int.reduceNeg,↓reduceIte,reduceCtorEq,scL,scD,expand,List.replicate,baseV,eqIf_ifc,eqIf_nil,eqIfA_nn,b1,b2,b3,b4,b5,b6,b7,b8,g1,g2,g3,g4,g5,g6,g7,f1,f2,f3,f4,f5,f6,f7,k1,k2,k3,k4,k5,k6,k7,k8,his])|apply gC_drawW|((first|apply gI_dec|apply gG_dec|apply gPG_dec|apply gI_var|apply gG_var|apply gPG_var)<;>intro _))
    exact ⟨Nat.zero_le _,trivial,_,.refl _ _,hstop (by rw[hrd,if_neg (by rw[his];exact Bool.false_ne_true)]) _ (by omega)⟩
   ·repeat' (first|(simp (disch:=first|omega|assumption|exact bd (by with_unfolding_all rfl)|exact Or.inl rfl|exact Or.inl trivial|exact okL_map _ (fun _=>rfl) _|(simp only[VVlen]<;>omega)|fail) only[VV0,VV1,VV2,VV3,VV4,VV5,VV6,VV7,VV8,VV9,mkFnV,vargs,slotsL,opdsA,Nat.reduceEqDiff,Nat.reduceLT,Nat.reduceAdd,Nat.reduceBEq,Int.reduceAdd,Int.reduceSub,Int.reduceLT,Int.reduceLE,Int.reduceEq,Int.reduceNeg,↓reduceIte,reduceCtorEq,scL,scD,expand,List.replicate,baseV,eqIf_ifc,eqIf_nil,eqIfA_nn,b1,b2,b3,b4,b5,b6,b7,b8,g1,g2,g3,g4,g5,g6,g7,f1,f2,f3,f4,f5,f6,f7,k1,k2,k3,k4,k5,k6,k7,k8,his])|apply gC_drawW|((first|apply gI_dec|apply gG_dec|apply gPG_dec|apply gI_var|apply gG_var|apply gPG_var)<;>intro _))
    exact ⟨Nat.zero_le _,trivial,_,(weak_front (aget_fresh _ _ (by simp;omega))).trans (.refl _ _),hstop (by rw[hrd,if_neg (by rw[his];exact Bool.false_ne_true)]) _ (by omega)⟩
  ·repeat' (first|(simp (disch:=first|omega|assumption|exact bd (by with_unfolding_all rfl)|exact Or.inl rfl|exact Or.inl trivial|exact okL_map _ (fun _=>rfl) _|(simp only[VVlen]<;>omega)|fail) only[VV0,VV1,VV2,VV3,VV4,VV5,VV6,VV7,VV8,VV9,mkFnV,vargs,slotsL,opdsA,Nat.reduceEqDiff,Nat.reduceLT,Nat.reduceAdd,Nat.reduceBEq,Int.reduceAdd,Int.reduceSub,Int.reduceLT,Int.reduceLE,Int.reduceEq,Int.reduceNeg,↓reduceIte,reduceCtorEq,scL,scD,expand,List.replicate,baseV,eqIf_ifc,eqIf_nil,eqIfA_nn,b1,b2,b3,b4,b5,b6,b7,b8,g1,g2,g3,g4,g5,g6,g7,f1,f2,f3,f4,f5,f6,f7,k1,k2,k3,k4,k5,k6,k7,k8,his])|apply gC_drawW|((first|apply gI_dec|apply gG_dec|apply gPG_dec|apply gI_var|apply gG_var|apply gPG_var)<;>intro _))
   refine atoi_any w (n+6) hcs v (by omega) hes her (fun vv hv=>?_) (fun hv kv cv=>?_)
   ·repeat' (first|(simp (disch:=first|omega|assumption|exact bd (by with_unfolding_all rfl)|exact Or.inl rfl|exact Or.inl trivial|exact okL_map _ (fun _=>rfl) _|(simp only[VVlen]<;>omega)|fail) only[VV0,VV1,VV2,VV3,VV4,VV5,VV6,VV7,VV8,VV9,mkFnV,vargs,slotsL,opdsA,Nat.reduceEqDiff,Nat.reduceLT,Nat.reduceAdd,Nat.reduceBEq,Int.reduceAdd,Int.reduceSub,Int.reduceLT,Int.reduceLE,Int.reduceEq,Int.reduceNeg,↓reduceIte,reduceCtorEq,scL,scD,expand,List.replicate,baseV,eqIf_ifc,eqIf_nil,eqIfA_nn,b1,b2,b3,b4,b5,b6,b7,b8,g1,g2,g3,g4,g5,g6,g7,f1,f2,f3,f4,f5,f6,f7,k1,k2,k3,k4,k5,k6,k7,k8,his])|apply gC_drawW|((first|apply gI_dec|apply gG_dec|apply gPG_dec|apply gI_var|apply gG_var|apply gPG_var)<;>intro _))
    exact ⟨Nat.zero_le _,trivial,_,(weak_front (aget_fresh _ _ (by simp;omega))).trans (.refl _ _),hstop (by rw[hrd,if_neg (by rw[his];exact Bool.false_ne_true)]) _ (by omega)⟩
   ·repeat' (first|(simp (disch:=first|omega|assumption|exact bd (by with_unfolding_all rfl)|exact Or.inl rfl|exact Or.inl trivial|exact okL_map _ (fun _=>rfl) _|(simp only[VVlen]<;>omega)|fail) only[VV0,VV1,VV2,VV3,VV4,VV5,VV6,VV7,VV8,VV9,mkFnV,vargs,slotsL,opdsA,Nat.reduceEqDiff,Nat.reduceLT,Nat.reduceAdd,Nat.reduceBEq,Int.reduceAdd,Int.reduceSub,Int.reduceLT,Int.reduceLE,Int.reduceEq,Int.reduceNeg,↓reduceIte,reduceCtorEq,scL,scD,expand,List.replicate,baseV,eqIf_ifc,eqIf_nil,eqIfA_nn,b1,b2,b3,b4,b5,b6,b7,b8,g1,g2,g3,g4,g5,g6,g7,f1,f2,f3,f4,f5,f6,f7,k1,k2,k3,k4,k5,k6,k7,k8,his])|apply gC_drawW|((first|apply gI_dec|apply gG_dec|apply gPG_dec|apply gI_var|apply gG_var|apply gPG_var)<;>intro _))
    exact ⟨Nat.zero_le _,trivial,_,(weak_front (aget_fresh _ _ (by simp;omega))).trans ((weak_front (aget_fresh _ _ (by simp;omega))).trans (.refl _ _)),hstop (by rw[hrd,if_neg (by rw[his];exact Bool.false_ne_true)]) _ (by omega)⟩
 refine atoi_any w (n+6) hcs u (by omega) hes her (fun vu hu=>?_) (fun hu ku cu=>?_)
 ·repeat' (first|(simp (disch:=first|omega|assumption|exact bd (by with_unfolding_all rfl)|exact Or.inl rfl|exact Or.inl trivial|exact okL_map _ (fun _=>rfl) _|(simp only[VVlen]<;>omega)|fail) only[VV0,VV1,VV2,VV3,VV4,VV5,VV6,VV7,VV8,VV9,mkFnV,vargs,slotsL,opdsA,Nat.reduceEqDiff,Nat.reduceLT,Nat.reduceAdd,Nat.reduceBEq,Int.reduceAdd,Int.reduceSub,Int.reduceLT,Int.reduceLE,Int.reduceEq,Int.reduceNeg,↓reduceIte,reduceCtorEq,scL,scD,expand,List.replicate,baseV,eqIf_ifc,eqIf_nil,eqIfA_nn,b1,b2,b3,b4,b5,b6,b7,b8,g1,g2,g3,g4,g5,g6,g7,f1,f2,f3,f4,f5,f6,f7,k1,k2,k3,k4,k5,k6,k7,k8,his])|apply gC_drawW|((first|apply gI_dec|apply gG_dec|apply gPG_dec|apply gI_var|apply gG_var|apply gPG_var)<;>intro _))
  refine atoi_any w (n+6) hcs v (by omega) hes her (fun vv hv=>?_) (fun hv kv cv=>?_)
  ·repeat' (first|(simp (disch:=first|omega|assumption|exact bd (by with_unfolding_all rfl)|exact Or.inl rfl|exact Or.inl trivial|exact okL_map _ (fun _=>rfl) _|(simp only[VVlen]<;>omega)|fail) only[VV0,VV1,VV2,VV3,VV4,VV5,VV6,VV7,VV8,VV9,mkFnV,vargs,slotsL,opdsA,Nat.reduceEqDiff,Nat.reduceLT,Nat.reduceAdd,Nat.reduceBEq,Int.reduceAdd,Int.reduceSub,Int.reduceLT,Int.reduceLE,Int.reduceEq,Int.reduceNeg,↓reduceIte,reduceCtorEq,scL,scD,expand,List.replicate,baseV,eqIf_ifc,eqIf_nil,eqIfA_nn,b1,b2,b3,b4,b5,b6,b7,b8,g1,g2,g3,g4,g5,g6,g7,f1,f2,f3,f4,f5,f6,f7,k1,k2,k3,k4,k5,k6,k7,k8,his])|apply gC_drawW|((first|apply gI_dec|apply gG_dec|apply gPG_dec|apply gI_var|apply gG_var|apply gPG_var)<;>intro _))
   repeat' (first|(simp (disch:=first|omega|assumption|exact bd (by with_unfolding_all rfl)|exact Or.inl rfl|exact Or.inl trivial|exact okL_map _ (fun _=>rfl) _|(simp only[VVlen]<;>omega)|fail) only[VV0,VV1,VV2,VV3,VV4,VV5,VV6,VV7,VV8,VV9,mkFnV,vargs,slotsL,opdsA,Nat.reduceEqDiff,Nat.reduceLT,Nat.reduceAdd,Nat.reduceBEq,Int.reduceAdd,Int.reduceSub,Int.reduceLT,Int.reduceLE,Int.reduceEq,Int.reduceNeg,↓reduceIte,reduceCtorEq,scL,scD,expand,List.replicate,row1V_run,b1,b2,b3,b4,b5,b6,b7,b8,g1,g2,g3,g4,g5,g6,g7,f1,f2,f3,f4,f5,f6,f7,k1,k2,k3,k4,k5,k6,k7,k8,his])|apply gC_drawW|((first|apply gI_dec|apply gG_dec|apply gPG_dec|apply gI_var|apply gG_var|apply gPG_var)<;>intro _))
   have hh:=hgo (vu,vv) (by rw[hrd,if_pos his,hu,hv];rfl)
   have m1:¬ (nx=6):=by omega
   have m2:¬ (nx=4):=by omega
   have m3:¬ (nx=3):=by omega
   have m4:¬ (nx=2):=by omega
   have m5:¬ (nx=1):=by omega
   have m6:¬ (nx=0):=by omega
   have hnx4:C4.w0.nx=nx:=h4n
   refine ⟨Nat.zero_le _,trivial,_,weak_keep [7,nx+1,5,4,3,2,1,0] (by simp;omega) (by simp;omega) (by omega),Eq.mp (congrArg (Q2 _) ?_) hh⟩
   simp[baseV,runC_append,iD,idR,renH,aget_cons,renO,recO,vrenL,vren,codeOf,b1,b2,b3,b4,b5,b6,b7,b8,g1,g2,g3,g4,g5,g6,g7,f1,f2,f3,f4,f5,f6,f7,k1,k2,k3,k4,k5,k6,k7,k8,m1,m2,m3,m4,m5,m6]
  ·repeat' (first|(simp (disch:=first|omega|assumption|exact bd (by with_unfolding_all rfl)|exact Or.inl rfl|exact Or.inl trivial|exact okL_map _ (fun _=>rfl) _|(simp only[VVlen]<;>omega)|fail) only[VV0,VV1,VV2,VV3,VV4,VV5,VV6,VV7,VV8,VV9,mkFnV,vargs,slotsL,opdsA,Nat.reduceEqDiff,Nat.reduceLT,Nat.reduceAdd,Nat.reduceBEq,Int.reduceAdd,Int.reduceSub,Int.reduceLT,Int.reduceLE,Int.reduceEq,Int.reduceNeg,↓reduceIte,reduceCtorEq,scL,scD,expand,List.replicate,baseV,eqIf_ifc,eqIf_nil,eqIfA_nn,b1,b2,b3,b4,b5,b6,b7,b8,g1,g2,g3,g4,g5,g6,g7,f1,f2,f3,f4,f5,f6,f7,k1,k2,k3,k4,k5,k6,k7,k8,his])|apply gC_drawW|((first|apply gI_dec|apply gG_dec|apply gPG_dec|apply gI_var|apply gG_var|apply gPG_var)<;>intro _))
   exact ⟨Nat.zero_le _,trivial,_,(weak_front (aget_fresh _ _ (by simp;omega))).trans (.refl _ _),hstop (by rw[hrd,if_pos his,hu,hv];rfl) _ (by omega)⟩
 ·repeat' (first|(simp (disch:=first|omega|assumption|exact bd (by with_unfolding_all rfl)|exact Or.inl rfl|exact Or.inl trivial|exact okL_map _ (fun _=>rfl) _|(simp only[VVlen]<;>omega)|fail) only[VV0,VV1,VV2,VV3,VV4,VV5,VV6,VV7,VV8,VV9,mkFnV,vargs,slotsL,opdsA,Nat.reduceEqDiff,Nat.reduceLT,Nat.reduceAdd,Nat.reduceBEq,Int.reduceAdd,Int.reduceSub,Int.reduceLT,Int.reduceLE,Int.reduceEq,Int.reduceNeg,↓reduceIte,reduceCtorEq,scL,scD,expand,List.replicate,baseV,eqIf_ifc,eqIf_nil,eqIfA_nn,b1,b2,b3,b4,b5,b6,b7,b8,g1,g2,g3,g4,g5,g6,g7,f1,f2,f3,f4,f5,f6,f7,k1,k2,k3,k4,k5,k6,k7,k8,his])|apply gC_drawW|((first|apply gI_dec|apply gG_dec|apply gPG_dec|apply gI_var|apply gG_var|apply gPG_var)<;>intro _))
  refine atoi_any w (n+6) hcs v (by omega) hes her (fun vv hv=>?_) (fun hv kv cv=>?_)
  ·repeat' (first|(simp (disch:=first|omega|assumption|exact bd (by with_unfolding_all rfl)|exact Or.inl rfl|exact Or.inl trivial|exact okL_map _ (fun _=>rfl) _|(simp only[VVlen]<;>omega)|fail) only[VV0,VV1,VV2,VV3,VV4,VV5,VV6,VV7,VV8,VV9,mkFnV,vargs,slotsL,opdsA,Nat.reduceEqDiff,Nat.reduceLT,Nat.reduceAdd,Nat.reduceBEq,Int.reduceAdd,Int.reduceSub,Int.reduceLT,Int.reduceLE,Int.reduceEq,Int.reduceNeg,↓reduceIte,reduceCtorEq,scL,scD,expand,List.replicate,baseV,eqIf_ifc,eqIf_nil,eqIfA_nn,b1,b2,b3,b4,b5,b6,b7,b8,g1,g2,g3,g4,g5,g6,g7,f1,f2,f3,f4,f5,f6,f7,k1,k2,k3,k4,k5,k6,k7,k8,his])|apply gC_drawW|((first|apply gI_dec|apply gG_dec|apply gPG_dec|apply gI_var|apply gG_var|apply gPG_var)<;>intro _))
   exact ⟨Nat.zero_le _,trivial,_,(weak_front (aget_fresh _ _ (by simp;omega))).trans (.refl _ _),hstop (by rw[hrd,if_pos his,hu];rfl) _ (by omega)⟩
  ·repeat' (first|(simp (disch:=first|omega|assumption|exact bd (by with_unfolding_all rfl)|exact Or.inl rfl|exact Or.inl trivial|exact okL_map _ (fun _=>rfl) _|(simp only[VVlen]<;>omega)|fail) only[VV0,VV1,VV2,VV3,VV4,VV5,VV6,VV7,VV8,VV9,mkFnV,vargs,slotsL,opdsA,Nat.reduceEqDiff,Nat.reduceLT,Nat.reduceAdd,Nat.reduceBEq,Int.reduceAdd,Int.reduceSub,Int.reduceLT,Int.reduceLE,Int.reduceEq,Int.reduceNeg,↓reduceIte,reduceCtorEq,scL,scD,expand,List.replicate,baseV,eqIf_ifc,eqIf_nil,eqIfA_nn,b1,b2,b3,b4,b5,b6,b7,b8,g1,g2,g3,g4,g5,g6,g7,f1,f2,f3,f4,f5,f6,f7,k1,k2,k3,k4,k5,k6,k7,k8,his])|apply gC_drawW|((first|apply gI_dec|apply gG_dec|apply gPG_dec|apply gI_var|apply gG_var|apply gPG_var)<;>intro _))
   exact ⟨Nat.zero_le _,trivial,_,(weak_front (aget_fresh _ _ (by simp;omega))).trans ((weak_front (aget_fresh _ _ (by simp;omega))).trans (.refl _ _)),hstop (by rw[hrd,if_pos his,hu];rfl) _ (by omega)⟩
theorem parse_p (s:List UInt8) (hl:s.length≤100000) (hes:(errO Tryd.prog w "strconv.ErrSyntax").isSome=true) (her:(errO Tryd.prog w "strconv.ErrRange").isSome=true):VSpec (EN w (n+8)) 30 [strV s] (sl2 (pparseF s)) ⟨[],0,0⟩:=by
 refine vspec_g rfl rfl (fun _ _=>rfl) (Nat.le_of_ble_eq_true rfl) (oldVals w) retOK_fin rfl fun C hC hn=>?_
 have hsz:=mk_size s
 by_cases hs:s= []
 ·subst hs
  repeat' (first|(simp (disch:=first|omega|assumption|exact bd (by with_unfolding_all rfl)|exact Or.inl rfl|exact Or.inl trivial|exact okL_map _ (fun _=>rfl) _|(simp only[VVlen]<;>omega)|fail) only[VV0,VV1,VV2,VV3,VV4,VV5,VV6,VV7,VV8,VV9,mkFnV,vargs,slotsL,opdsA,Nat.reduceEqDiff,Nat.reduceLT,Nat.reduceAdd,Nat.reduceBEq,Int.reduceAdd,Int.reduceSub,Int.reduceLT,Int.reduceLE,Int.reduceEq,Int.reduceNeg,↓reduceIte,reduceCtorEq,scL,scD,expand,List.replicate,c30])|apply gC_drawW|((first|apply gI_dec|apply gG_dec|apply gPG_dec|apply gI_var|apply gG_var|apply gPG_var)<;>intro _))
  exact weak_finNil hn rfl
 have hs':¬ (ByteArray.mk s.toArray=ByteArray.mk #[]):=fun h=>hs (by
  have:=congrArg (fun b:ByteArray=>b.data.toList) h
  simpa using this)
 repeat' (first|(simp (disch:=first|omega|assumption|exact bd (by with_unfolding_all rfl)|exact Or.inl rfl|exact Or.inl trivial|exact okL_map _ (fun _=>rfl) _|(simp only[VVlen]<;>omega)|fail) only[VV0,VV1,VV2,VV3,VV4,VV5,VV6,VV7,VV8,VV9,mkFnV,vargs,slotsL,opdsA,Nat.reduceEqDiff,Nat.reduceLT,Nat.reduceAdd,Nat.reduceBEq,Int.reduceAdd,Int.reduceSub,Int.reduceLT,Int.reduceLE,Int.reduceEq,Int.reduceNeg,↓reduceIte,reduceCtorEq,scL,scD,expand,List.replicate,c30,hs'])|apply gC_drawW|((first|apply gI_dec|apply gG_dec|apply gPG_dec|apply gI_var|apply gG_var|apply gPG_var)<;>intro _))
 refine callV_of (by rw[hC];exact splitSeq_p w (n+5) s 32) rfl rfl rfl ?_
 repeat' (first|(simp (disch:=first|omega|assumption|exact bd (by with_unfolding_all rfl)|exact Or.inl rfl|exact Or.inl trivial|exact okL_map _ (fun _=>rfl) _|(simp only[VVlen]<;>omega)|fail) only[VV0,VV1,VV2,VV3,VV4,VV5,VV6,VV7,VV8,VV9,mkFnV,vargs,slotsL,opdsA,Nat.reduceEqDiff,Nat.reduceLT,Nat.reduceAdd,Nat.reduceBEq,Int.reduceAdd,Int.reduceSub,Int.reduceLT,Int.reduceLE,Int.reduceEq,Int.reduceNeg,↓reduceIte,reduceCtorEq,scL,scD,expand,List.replicate,vsh,vshL,shH,shO,fzSL,fzS])|apply gC_drawW|((first|apply gI_dec|apply gG_dec|apply gPG_dec|apply gI_var|apply gG_var|apply gPG_var)<;>intro _))
 refine g_rangeW (weak_nilCell (C:=C) (l:= [.sc (.slice none 0 0)]) 2 24 1 0 58 2 rfl rfl (fun h=>absurd (show (2:Nat)=6 from h) (by decide))) ?_
 refine g_range hC rfl rfl rfl (Nat.le_of_ble_eq_true rfl) rfl (Nat.zero_le _) fun C2 h2n h2r h2p h2o hT=>?_
 repeat' (first|(simp (disch:=first|omega|assumption|exact bd (by with_unfolding_all rfl)|exact Or.inl rfl|exact Or.inl trivial|exact okL_map _ (fun _=>rfl) _|(simp only[VVlen]<;>omega)|fail) only[VV0,VV1,VV2,VV3,VV4,VV5,VV6,VV7,VV8,VV9,mkFnV,vargs,slotsL,opdsA,Nat.reduceEqDiff,Nat.reduceLT,Nat.reduceAdd,Nat.reduceBEq,Int.reduceAdd,Int.reduceSub,Int.reduceLT,Int.reduceLE,Int.reduceEq,Int.reduceNeg,↓reduceIte,reduceCtorEq,scL,scD,expand,List.replicate])|apply gC_drawW|((first|apply gI_dec|apply gG_dec|apply gPG_dec|apply gI_var|apply gG_var|apply gPG_var)<;>intro _))
 refine split_iter (d:=7) (oP:=4) (oS:=3) (oV:=5) (c:=32) (s:=s) w (n+2)
  (fun dn r st=>∃ (g nx:Nat) (Q:List (Int × Int)),(g ≠ 0∧g ≠ 1∧g ≠ 2∧g ≠ 3∧g ≠ 4∧g ≠ 5∧g ≠ 7∧g<nx∧7<nx)∧parseA dn=some Q∧st=⟨(7,recO 0)::baseV g Q r 0,nx,0⟩)
  (fun st=>∃ (g nx:Nat) (Q:List (Int × Int)) (r:List UInt8),(g ≠ 0∧g ≠ 1∧g ≠ 2∧g ≠ 3∧g ≠ 4∧g ≠ 5∧g ≠ 7∧g<nx∧7<nx)∧parseA (words 32 s)=none∧st=⟨(7,recO (codeOf .ret))::baseV g Q r 12,nx,0⟩)
  h2p h2o h2r (by omega) hT ?_ ?_ ?_ ?_ ?_ _ ⟨6,8,[],by decide,rfl,rfl⟩
 ·rintro dn r st ⟨g,nx,Q,⟨g1,g2,g3,g4,g5,g6,g7,g8,g9⟩,hQ,rfl⟩
  have f1:=Ne.symm g1
  have f2:=Ne.symm g2
  have f3:=Ne.symm g3
  have f4:=Ne.symm g4
  have f5:=Ne.symm g5
  have f6:=Ne.symm g6
  refine ⟨?_,?_,?_,Nat.zero_le _⟩
  all_goals simp[aget_cons,f1,f2,f3,f4,f5,f6]
 ·rintro dn r x ws st Q2 hw hwr ⟨g,nx,Q,⟨g1,g2,g3,g4,g5,g6,g7,g8,g9⟩,hQ,rfl⟩ hgo hstop
  have hxm:x ∈ words 32 s:=by rw[hw,hwr];simp
  obtain ⟨hwl,hwx⟩:=words_len (c:=32) s.length (s:=s) (Nat.le_refl _)
  have hx1:=hwx x hxm
  have hQl:Q.length≤200000:=by
   have h1:=parseA_len hQ
   have h2:(words 32 s).length=dn.length+(words 32 r).length:=by rw[hw];simp
   omega
  refine parse_round w n hC hes her _ x r (by omega) g nx Q hQl g1 g2 g3 g4 g5 g6 g7 g8 g9 Q2 (fun p hp=>?_) (fun hp nx' hnx=>?_)
  ·refine hgo _ ⟨nx+1,nx+2,Q++ [p],by omega,?_,rfl⟩
   rw[parseA_append _ hQ]
   simp only[parseA,hp,Option.bind_some,Option.map_some]
  ·refine hstop _ ⟨g,nx',Q,r,by omega,?_,rfl⟩
   rw[hw,hwr,parseA_append _ hQ]
   simp only[parseA,hp,Option.bind_none,Option.map_none]
 ·rintro dn r r' st ⟨g,nx,Q,⟨g1,g2,g3,g4,g5,g6,g7,g8,g9⟩,hQ,rfl⟩
  have f4:=Ne.symm g4
  refine ⟨g,nx,Q,⟨g1,g2,g3,g4,g5,g6,g7,g8,g9⟩,hQ,?_⟩
  simp[aset_cons',f4]
 ·rintro fr st r ⟨g,nx,Q,⟨g1,g2,g3,g4,g5,g6,g7,g8,g9⟩,hQ,rfl⟩
  refine ⟨fun i h=>(by cases h),Nat.zero_le _,0,.normal,rfl,rfl,?_⟩
  have f1:=Ne.symm g1
  have f2:=Ne.symm g2
  have f3:=Ne.symm g3
  have f7:=Ne.symm g7
  have f4:=Ne.symm g4
  have f5:=Ne.symm g5
  have f6:=Ne.symm g6
  have hpe:pparseF s=if (expF Q).2 ≠ 0 then ([],12) else if (textF (expF Q).1).1=s then ((expF Q).1,0) else ([],12):=by
   unfold pparseF
   rw[if_neg hs,hQ]
  have hQl:Q.length≤200000:=by
   have h1:=parseA_len hQ
   have h2:=(words_len (c:=32) s.length (s:=s) (Nat.le_refl _)).1
   omega
  have hel:(expF Q).1.length≤4000:=by
   unfold expF
   split
   ·split
    ·have:=(sumR_nn (R:=Q) (by assumption)).2
     simp only;omega
    ·simp
   ·simp
  rw[hpe]
  repeat' (first|(simp (disch:=first|omega|assumption|exact bd (by with_unfolding_all rfl)|exact Or.inl rfl|exact Or.inl trivial|exact okL_map _ (fun _=>rfl) _|(simp only[VVlen]<;>omega)|fail) only[VV0,VV1,VV2,VV3,VV4,VV5,VV6,VV7,VV8,VV9,mkFnV,vargs,slotsL,opdsA,Nat.reduceEqDiff,Nat.reduceLT,Nat.reduceAdd,Nat.reduceBEq,Int.reduceAdd,Int.reduceSub,Int.reduceLT,Int.reduceLE,Int.reduceEq,Int.reduceNeg,↓reduceIte,reduceCtorEq,scL,scD,expand,List.replicate,f1,f2,f3,f4,f5,f6,f7,g1,g2,g3,g4,g5,g6,g7])|apply gC_drawW|((first|apply gI_dec|apply gG_dec|apply gPG_dec|apply gI_var|apply gG_var|apply gPG_var)<;>intro _))
  by_cases he:(expF Q).2=0
  case neg=>
   rw[if_pos he]
   refine callV_of (by rw[hC];exact expand_p w (n+3) 2 Q (by omega)) (snapR _ _ _ _) (rowsB_gro 0 _ g 58 2 false _ [] (by rw[aget_cons,if_pos rfl]) (Nat.zero_le _) rfl) rfl ?_
   repeat' (first|(simp (disch:=first|omega|assumption|exact bd (by with_unfolding_all rfl)|exact Or.inl rfl|exact Or.inl trivial|exact okL_map _ (fun _=>rfl) _|(simp only[VVlen]<;>omega)|fail) only[VV0,VV1,VV2,VV3,VV4,VV5,VV6,VV7,VV8,VV9,mkFnV,vargs,slotsL,opdsA,Nat.reduceEqDiff,Nat.reduceLT,Nat.reduceAdd,Nat.reduceBEq,Int.reduceAdd,Int.reduceSub,Int.reduceLT,Int.reduceLE,Int.reduceEq,Int.reduceNeg,↓reduceIte,reduceCtorEq,scL,scD,expand,List.replicate,vsh,vshL,shH,shO,fzSL,fzS,f1,f2,f3,f4,f5,f6,f7,g1,g2,g3,g4,g5,g6,g7])|apply gC_drawW|((first|apply gI_dec|apply gG_dec|apply gPG_dec|apply gI_var|apply gG_var|apply gPG_var)<;>intro _))
   all_goals try (exfalso;omega)
   exact weak_finNil hn rfl
  rw[if_neg (fun h=>h he)]
  refine callV_of (by rw[hC];exact expand_p w (n+3) 2 Q (by omega)) (snapR _ _ _ _) (rowsB_gro 0 _ g 58 2 false _ [] (by rw[aget_cons,if_pos rfl]) (Nat.zero_le _) rfl) rfl ?_
  repeat' (first|(simp (disch:=first|omega|assumption|exact bd (by with_unfolding_all rfl)|exact Or.inl rfl|exact Or.inl trivial|exact okL_map _ (fun _=>rfl) _|(simp only[VVlen]<;>omega)|fail) only[VV0,VV1,VV2,VV3,VV4,VV5,VV6,VV7,VV8,VV9,mkFnV,vargs,slotsL,opdsA,Nat.reduceEqDiff,Nat.reduceLT,Nat.reduceAdd,Nat.reduceBEq,Int.reduceAdd,Int.reduceSub,Int.reduceLT,Int.reduceLE,Int.reduceEq,Int.reduceNeg,↓reduceIte,reduceCtorEq,scL,scD,expand,List.replicate,vsh,vshL,shH,shO,fzSL,fzS,he,f1,f2,f3,f4,f5,f6,f7,g1,g2,g3,g4,g5,g6,g7])|apply gC_drawW|((first|apply gI_dec|apply gG_dec|apply gPG_dec|apply gI_var|apply gG_var|apply gPG_var)<;>intro _))
  refine callV_flat (by rw[hC];exact (text_p w n 3 (by decide) (expF Q).1 (by omega)).flat rfl rfl) ?_
  by_cases ht:(textF (expF Q).1).1=s
  ·rw[if_pos ht]
   repeat' (first|(simp (disch:=first|omega|assumption|exact bd (by with_unfolding_all rfl)|exact Or.inl rfl|exact Or.inl trivial|exact okL_map _ (fun _=>rfl) _|(simp only[VVlen]<;>omega)|fail) only[VV0,VV1,VV2,VV3,VV4,VV5,VV6,VV7,VV8,VV9,mkFnV,vargs,slotsL,opdsA,Nat.reduceEqDiff,Nat.reduceLT,Nat.reduceAdd,Nat.reduceBEq,Int.reduceAdd,Int.reduceSub,Int.reduceLT,Int.reduceLE,Int.reduceEq,Int.reduceNeg,↓reduceIte,reduceCtorEq,scL,scD,expand,List.replicate,mk_inj,ht,f1,f2,f3,f4,f5,f6,f7,g1,g2,g3,g4,g5,g6,g7])|apply gC_drawW|((first|apply gI_dec|apply gG_dec|apply gPG_dec|apply gI_var|apply gG_var|apply gPG_var)<;>intro _))
   exact weak_to [] 0 hn rfl rfl rfl rfl
  ·rw[if_neg ht]
   repeat' (first|(simp (disch:=first|omega|assumption|exact bd (by with_unfolding_all rfl)|exact Or.inl rfl|exact Or.inl trivial|exact okL_map _ (fun _=>rfl) _|(simp only[VVlen]<;>omega)|fail) only[VV0,VV1,VV2,VV3,VV4,VV5,VV6,VV7,VV8,VV9,mkFnV,vargs,slotsL,opdsA,Nat.reduceEqDiff,Nat.reduceLT,Nat.reduceAdd,Nat.reduceBEq,Int.reduceAdd,Int.reduceSub,Int.reduceLT,Int.reduceLE,Int.reduceEq,Int.reduceNeg,↓reduceIte,reduceCtorEq,scL,scD,expand,List.replicate,mk_inj,ht,f1,f2,f3,f4,f5,f6,f7,g1,g2,g3,g4,g5,g6,g7])|apply gC_drawW|((first|apply gI_dec|apply gG_dec|apply gPG_dec|apply gI_var|apply gG_var|apply gPG_var)<;>intro _))
   exact weak_finNil hn rfl
 ·rintro ex fr st hex ⟨g,nx,Q,r,⟨g1,g2,g3,g4,g5,g6,g7,g8,g9⟩,hQ,rfl⟩
  refine ⟨hex,Nat.zero_le _,_,.ret,rfl,rfl,?_⟩
  have f1:=Ne.symm g1
  have f2:=Ne.symm g2
  have f7:=Ne.symm g7
  have hpe:pparseF s=([],12):=by
   unfold pparseF
   rw[if_neg hs,hQ]
  rw[hpe]
  repeat' (first|(simp (disch:=first|omega|assumption|exact bd (by with_unfolding_all rfl)|exact Or.inl rfl|exact Or.inl trivial|exact okL_map _ (fun _=>rfl) _|(simp only[VVlen]<;>omega)|fail) only[VV0,VV1,VV2,VV3,VV4,VV5,VV6,VV7,VV8,VV9,mkFnV,vargs,slotsL,opdsA,Nat.reduceEqDiff,Nat.reduceLT,Nat.reduceAdd,Nat.reduceBEq,Int.reduceAdd,Int.reduceSub,Int.reduceLT,Int.reduceLE,Int.reduceEq,Int.reduceNeg,↓reduceIte,reduceCtorEq,scL,scD,expand,List.replicate,f1,f2,f7,g1,g2,g7])|apply gC_drawW|((first|apply gI_dec|apply gG_dec|apply gPG_dec|apply gI_var|apply gG_var|apply gPG_var)<;>intro _))
  exact weak_finNil hn rfl
end
end Go.Proofs.YtgglaaldlegckaaDoor
namespace Go.Proofs.YtgglaaldlegckaaDoor
open Go Go.Itp
set_option maxRecDepth 100000
set_option maxHeartbeats 1000000
set_option linter.unusedSimpArgs false
set_option linter.unusedVariables false
end Go.Proofs.YtgglaaldlegckaaDoor
namespace Go.Proofs.YtgglaaldlegckaaDoor
open Go Go.Itp
set_option maxRecDepth 100000
set_option maxHeartbeats 1000000
set_option linter.unusedSimpArgs false
set_option linter.unusedVariables false
def txtK1 (p:Int × Int):List UInt8:=itoaF p.1++(120::itoaF p.2)
def txtK (R:List (Int × Int)):List UInt8:=R.foldl (fun acc p=>(if acc= [] then [] else acc++ [32])++txtK1 p) []
theorem txtK_eq {R:List (Int × Int)} (h:∀ p ∈ R,(0≤p.1∧p.1≤5000)∧0≤p.2∧p.2≤5000):txt R=txtK R:=by
 have key:∀ (R:List (Int × Int)) (acc:List UInt8),(∀ p ∈ R,(0≤p.1∧p.1≤5000)∧0≤p.2∧p.2≤5000)→R.foldl (fun acc p=>(if acc= [] then [] else acc++ [32])++txt1 p) acc=R.foldl (fun acc p=>(if acc= [] then [] else acc++ [32])++txtK1 p) acc:=by
  intro R
  induction R with
  |nil=>intro _ _;rfl
  |cons p R ih=>
   intro acc h
   obtain ⟨⟨a1,a2⟩,a3,a4⟩:=h p (by simp)
   have e:txt1 p=txtK1 p:=by unfold txt1 txtK1;rw[itoaF_eq a1 (by omega),itoaF_eq a3 (by omega)]
   simp only[List.foldl_cons,e]
   exact ih _ fun q hq=>h q (List.mem_cons_of_mem _ hq)
 exact key R [] h
def textK (l:List Int):List UInt8 × Int:=if chk l=0 then (txtK (runsP l l.length),0) else ([],chk l)
theorem textK_eq (l:List Int):textF l=textK l:=by
 unfold textF textK
 by_cases h:chk l=0
 ·rw[if_pos h,if_pos h]
  obtain ⟨hl4,hcol⟩:=chk_facts h
  rw[txtK_eq fun q hq=>⟨by have:=runsP_cnt l l.length q hq;omega,by obtain ⟨j,hj,e⟩:=runsP_col l l.length q hq;have:=hcol j (by omega);omega⟩]
 ·rw[if_neg h,if_neg h]
def pparseK (s:List UInt8):List Int × Int:=
 if s= [] then ([],0) else match parseA (words 32 s) with
  |none=>([],12)
  |some R=>if (expF R).2 ≠ 0 then ([],12) else if (textK (expF R).1).1=s then ((expF R).1,0) else ([],12)
theorem pparseK_eq (s:List UInt8):pparseF s=pparseK s:=by
 unfold pparseF pparseK
 by_cases hs:s= []
 ·rw[if_pos hs,if_pos hs]
 ·rw[if_neg hs,if_neg hs]
  cases parseA (words 32 s) with
  |none=>rfl
  |some R=>simp only[textK_eq]
def forms:List (List UInt8):= [[32],[49],[120],[49,120],[120,49],[48,49,120,49],[49,120,48,49],[49,120,49,54],[48,120,49],[52,48,48,49,120,49],[49,120,49,32,49,120,49],[49,120,49,32,32,49,120,50],[49,120,49,32],[32,49,120,49],[45,49,120,49],[43,49,120,49],[49,120,45,49],[49,121,49],[52,48,48,48,120,49,32,49,120,50],[49,120,49,120,49]]
theorem forms_bad:(forms.all fun s=>decide ((pparseK s).2=12))=true:=by decide+kernel
theorem form_ok:pparseK [50,120,49,32,49,120,49,53]=([1,1,15],0):=by decide+kernel
end Go.Proofs.YtgglaaldlegckaaDoor
namespace Go.Proofs.YtgglaaldlegckaaDoor
open Go Go.Itp
set_option maxRecDepth 100000
set_option maxHeartbeats 1000000
set_option linter.unusedSimpArgs false
def sw (l:List Int) (k:Nat):List Int:=(List.range l.length).map fun x=>if x<k∨l.length - k≤x then l[l.length - 1 - x]! else l[x]!
theorem sw_len (l:List Int) (k:Nat):(sw l k).length=l.length:=by simp[sw]
theorem sw_get (l:List Int) (k x:Nat) (h:x<l.length):(sw l k)[x]! =if x<k∨l.length - k≤x then l[l.length - 1 - x]! else l[x]! :=by
 rw[getElem!_pos _ _ (by rw[sw_len];exact h)]
 simp[sw]
theorem sw_zero (l:List Int):sw l 0=l:=by
 refine List.ext_getElem (sw_len l 0) fun i h1 h2=>?_
 have:=sw_get l 0 i h2
 rw[getElem!_pos (sw l 0) i h1] at this
 rw[this,if_neg (by omega),getElem!_pos l i h2]
theorem sw_step (l:List Int) (k j:Nat) (h:k<j) (hj:(l.length:Int) - 1 - k=j):((sw l k).set k (sw l k)[j]!).set j (sw l k)[k]! =sw l (k+1):=by
 refine List.ext_getElem (by simp[sw_len]) fun i h1 h2=>?_
 rw[sw_len] at h2
 have e:=sw_get l (k+1) i h2
 rw[getElem!_pos _ _ (by rw[sw_len];exact h2)] at e
 have e1:=sw_get l k i h2
 rw[getElem!_pos _ _ (by rw[sw_len];exact h2)] at e1
 have ej:(sw l k)[j]! =l[j]! :=by rw[sw_get l k j (by omega),if_neg (by omega)]
 have ek:(sw l k)[k]! =l[k]! :=by rw[sw_get l k k (by omega),if_neg (by omega)]
 rw[e,List.getElem_set,List.getElem_set,e1,ej,ek]
 by_cases h3:j=i
 ·subst h3
  rw[if_pos rfl,if_pos (by omega),show l.length - 1 - j=k by omega]
 rw[if_neg h3]
 by_cases h4:k=i
 ·subst h4
  rw[if_pos rfl,if_pos (by omega),show l.length - 1 - k=j by omega]
 rw[if_neg h4]
 by_cases h5:i<k∨l.length - k≤i
 ·rw[if_pos h5,if_pos (by omega)]
 ·rw[if_neg h5,if_neg (by omega)]
theorem sw_end (l:List Int) (k:Nat) (h:¬ (k:Int)<(l.length:Int) - 1 - k):sw l k=l.reverse:=by
 refine List.ext_getElem (by simp[sw_len]) fun i h1 h2=>?_
 rw[sw_len] at h1
 have e:=sw_get l k i h1
 rw[getElem!_pos _ _ (by rw[sw_len];exact h1)] at e
 rw[e,List.getElem_reverse]
 by_cases h3:i<k∨l.length - k≤i
 ·rw[if_pos h3,getElem!_pos l (l.length - 1 - i) (by omega)]
 ·rw[if_neg h3,getElem!_pos l i h1]
  congr 1
  omega
def windP (l:List Int) (t:Bool):Nat→List Int
 |0=> []
 |k+1=>windP l t k++(if t=true∧k % 2=1 then l.reverse else l)
theorem windP_len (l:List Int) (t:Bool):∀ k,(windP l t k).length=k*l.length
 |0=>by simp[windP]
 |k+1=>by
  simp only[windP,List.length_append,windP_len l t k,Nat.add_mul,Nat.one_mul]
  split<;>simp
section
variable (w:World) (n:Nat)
theorem clone_p (s:Nat) (l:List Int) (hl:l.length≤100000000000) (h0:0<l.length):VSpec (EN w (n+1)) 45 [.sl s l.length (l.map iD)] (.gr 2 0 l.length) ⟨[(0,.gro 3 1 false (l.map iD))],1,0⟩:=by
 refine vspec_g rfl rfl (fun _ _=>rfl) (Nat.le_of_ble_eq_true rfl) (oldVals w) (retOK_gr (map_nil_iff rfl)) rfl fun C hC hn=>?_
 have hlm:(l.map iD).length=l.length*1:=by simp
 have hne:l.length ≠ 0:=by omega
 have hnl:isNilV' 1 (.sl s l.length (l.map iD))=some false:=by
  have h3:Nat.beq l.length 0=false:=nbf.2 hne
  simp only[isNilV',h3]
  cases Nat.beq s 0<;>cases Nat.beq s 2<;>rfl
 repeat' (first|(simp (disch:=first|omega|assumption|exact bd (by with_unfolding_all rfl)|exact Or.inl rfl|exact Or.inl trivial|exact okL_map _ (fun _=>rfl) _|(simp only[VVlen]<;>omega)|fail) only[VV0,VV1,VV2,VV3,VV4,VV5,VV6,VV7,VV8,VV9,mkFnV,vargs,slotsL,opdsA,Nat.reduceEqDiff,Nat.reduceLT,Nat.reduceAdd,Nat.reduceBEq,Int.reduceAdd,Int.reduceSub,Int.reduceLT,Int.reduceLE,Int.reduceEq,Int.reduceNeg,↓reduceIte,reduceCtorEq,scL,scD,expand,List.replicate,c45,eqNilV_nil,hnl])|apply gC_drawW|((first|apply gI_dec|apply gG_dec|apply gPG_dec|apply gI_var|apply gG_var|apply gPG_var)<;>intro _))
 exact weak_to [(1,0)] 1 hn rfl rfl rfl rfl
theorem reverse_w {C:Ctx} {st:VSt} {Q:V→VSt→Prop} (hC:C.E=EN w (n+1)) (o t s:Nat) (l:List Int) (hl:l.length≤100000000000) (ho:aget st.own o=some (.gro t 1 false (l.map iD))) (hro:st.ro≤o)
  (hq:Q (.tup []) ⟨aset st.own o (.gro t 1 false (l.reverse.map iD)),st.next,st.ro⟩):CallV C 115 [.gr s o l.length] st Q:=by
 refine callV_w hC rfl rfl (fun _ _=>rfl) (Nat.le_of_ble_eq_true rfl) hq fun C' hC' hn=>?_
 obtain ⟨H,nx,ro⟩:=st
 simp only at ho hro hn
 have hs:(aget H o).isSome=true:=by rw[ho];rfl
 simp (disch:=first|omega|assumption|exact bd (by with_unfolding_all rfl)|exact Or.inl rfl|exact Or.inl trivial|exact okL_map _ (fun _=>rfl) _|(simp only[VVlen]<;>omega)|fail) only[VV0,VV1,VV2,VV3,VV4,VV5,VV6,VV7,VV8,VV9,mkFnV,vargs,slotsL,opdsA,Nat.reduceEqDiff,Nat.reduceLT,Nat.reduceAdd,Nat.reduceBEq,Int.reduceAdd,Int.reduceSub,Int.reduceLT,Int.reduceLE,Int.reduceEq,Int.reduceNeg,↓reduceIte,reduceCtorEq,scL,scD,expand,List.replicate,c115]
 refine g_while (fun m fr st=>∃ (k:Nat) (z:Int),m=l.length - k∧z=(l.length:Int) - 1 - k∧k≤l.length∧fr= [(0,.gr s o l.length),(2,.sc (.int .i64 k)),(3,.sc (.int .i64 z))]∧st=⟨aset H o (.gro t 1 false ((sw l k).map iD)),nx,ro⟩) l.length ?_ ⟨_,_,.refl _ _,0,(l.length:Int) - 1,?_⟩ ?_
 ·rw[hC',callP_rounds];unfold many;omega
 ·exact ⟨by omega,by omega,by omega,rfl,by rw[sw_zero,aset_self _ _ _ ho]⟩
 ·rintro m fr st ⟨k,z,rfl,hz,hk,rfl,rfl⟩
  have hlm:((sw l k).map iD).length=l.length:=by simp[sw_len]
  by_cases hlt:(k:Int)<z
  ·obtain ⟨j,rfl⟩:∃ j:Nat,z=j:=⟨z.toNat,by omega⟩
   have hsl:=sw_len l k
   have hst:=sw_step l k j (by omega) hz.symm
   repeat' (first|(simp (disch:=first|omega|assumption|exact bd (by with_unfolding_all rfl)|exact Or.inl rfl|exact Or.inl trivial|exact okL_map _ (fun _=>rfl) _|(simp only[VVlen]<;>omega)|fail) only[VV0,VV1,VV2,VV3,VV4,VV5,VV6,VV7,VV8,VV9,mkFnV,vargs,slotsL,opdsA,Nat.reduceEqDiff,Nat.reduceLT,Nat.reduceAdd,Nat.reduceBEq,Int.reduceAdd,Int.reduceSub,Int.reduceLT,Int.reduceLE,Int.reduceEq,Int.reduceNeg,↓reduceIte,reduceCtorEq,scL,scD,expand,List.replicate,c115l0,iD_dv])|apply gC_drawW|((first|apply gI_dec|apply gG_dec|apply gPG_dec|apply gI_var|apply gG_var|apply gPG_var)<;>intro _))
   refine ⟨_,_,_,by omega,.refl _ _,k+1,(j:Int) - 1,rfl,by omega,by omega,rfl,?_⟩
   rw[← hst,List.map_set,List.map_set]
   rfl
  ·rw[sw_end l k (by omega)]
   repeat' (first|(simp (disch:=first|omega|assumption|exact bd (by with_unfolding_all rfl)|exact Or.inl rfl|exact Or.inl trivial|exact okL_map _ (fun _=>rfl) _|(simp only[VVlen]<;>omega)|fail) only[VV0,VV1,VV2,VV3,VV4,VV5,VV6,VV7,VV8,VV9,mkFnV,vargs,slotsL,opdsA,Nat.reduceEqDiff,Nat.reduceLT,Nat.reduceAdd,Nat.reduceBEq,Int.reduceAdd,Int.reduceSub,Int.reduceLT,Int.reduceLE,Int.reduceEq,Int.reduceNeg,↓reduceIte,reduceCtorEq,scL,scD,expand,List.replicate,c115l0,iD_dv])|apply gC_drawW|((first|apply gI_dec|apply gG_dec|apply gPG_dec|apply gI_var|apply gG_var|apply gPG_var)<;>intro _))
   exact .refl _ _
theorem straight_p (s m:Nat) (i:Int) (c:List D) (hs:s ≠ 1∨m ≠ 0):VSpec (EN w (n+1)) 116 [.agg [],.sl s m c,.sc (.int .i64 i)] (.sl s m c) ⟨[],0,0⟩:=by
 refine vspec_g rfl rfl (fun _ _=>rfl) (Nat.le_of_ble_eq_true rfl) (oldVals w) (retOK_nil ?_) rfl fun C hC hn=>?_
 ·simp only[Cl,okD,Bool.or_eq_true,Bool.not_eq_true',nbf];exact hs
 repeat' (first|(simp (disch:=first|omega|assumption|exact bd (by with_unfolding_all rfl)|exact Or.inl rfl|exact Or.inl trivial|exact okL_map _ (fun _=>rfl) _|(simp only[VVlen]<;>omega)|fail) only[VV0,VV1,VV2,VV3,VV4,VV5,VV6,VV7,VV8,VV9,mkFnV,vargs,slotsL,opdsA,Nat.reduceEqDiff,Nat.reduceLT,Nat.reduceAdd,Nat.reduceBEq,Int.reduceAdd,Int.reduceSub,Int.reduceLT,Int.reduceLE,Int.reduceEq,Int.reduceNeg,↓reduceIte,reduceCtorEq,scL,scD,expand,List.replicate,c116])|apply gC_drawW|((first|apply gI_dec|apply gG_dec|apply gPG_dec|apply gI_var|apply gG_var|apply gPG_var)<;>intro _))
 exact weak_to [] 0 hn rfl rfl rfl rfl
theorem turnEven_p (s m:Nat) (i:Nat) (hi:i≤4000) (h2:i % 2=0) (c:List D) (hs:s ≠ 1∨m ≠ 0):VSpec (EN w (n+2)) 114 [.agg [],.sl s m c,.sc (.int .i64 i)] (.sl s m c) ⟨[],0,0⟩:=by
 refine vspec_g rfl rfl (fun _ _=>rfl) (Nat.le_of_ble_eq_true rfl) (oldVals w) (retOK_nil ?_) rfl fun C hC hn=>?_
 ·simp only[Cl,okD,Bool.or_eq_true,Bool.not_eq_true',nbf];exact hs
 have e:(i:Int) % 2=0:=by omega
 repeat' (first|(simp (disch:=first|omega|assumption|exact bd (by with_unfolding_all rfl)|exact Or.inl rfl|exact Or.inl trivial|exact okL_map _ (fun _=>rfl) _|(simp only[VVlen]<;>omega)|fail) only[VV0,VV1,VV2,VV3,VV4,VV5,VV6,VV7,VV8,VV9,mkFnV,vargs,slotsL,opdsA,Nat.reduceEqDiff,Nat.reduceLT,Nat.reduceAdd,Nat.reduceBEq,Int.reduceAdd,Int.reduceSub,Int.reduceLT,Int.reduceLE,Int.reduceEq,Int.reduceNeg,↓reduceIte,reduceCtorEq,scL,scD,expand,List.replicate,c114])|apply gC_drawW|((first|apply gI_dec|apply gG_dec|apply gPG_dec|apply gI_var|apply gG_var|apply gPG_var)<;>intro _))
 exact weak_to [] 0 hn rfl rfl rfl rfl
theorem turnOdd_p (s:Nat) (i:Nat) (hi:i≤4000) (h2:i % 2=1) (l:List Int) (hl:l.length≤100000000000) (h0:0<l.length):VSpec (EN w (n+2)) 114 [.agg [],.sl s l.length (l.map iD),.sc (.int .i64 i)] (.gr 2 0 l.length) ⟨[(0,.gro 3 1 false (l.reverse.map iD))],1,0⟩:=by
 refine vspec_g rfl rfl (fun _ _=>rfl) (Nat.le_of_ble_eq_true rfl) (oldVals w) (retOK_gr (map_nil_iff (by simp))) rfl fun C hC hn=>?_
 have e:(i:Int) % 2=1:=by omega
 repeat' (first|(simp (disch:=first|omega|assumption|exact bd (by with_unfolding_all rfl)|exact Or.inl rfl|exact Or.inl trivial|exact okL_map _ (fun _=>rfl) _|(simp only[VVlen]<;>omega)|fail) only[VV0,VV1,VV2,VV3,VV4,VV5,VV6,VV7,VV8,VV9,mkFnV,vargs,slotsL,opdsA,Nat.reduceEqDiff,Nat.reduceLT,Nat.reduceAdd,Nat.reduceBEq,Int.reduceAdd,Int.reduceSub,Int.reduceLT,Int.reduceLE,Int.reduceEq,Int.reduceNeg,↓reduceIte,reduceCtorEq,scL,scD,expand,List.replicate,c114])|apply gC_drawW|((first|apply gI_dec|apply gG_dec|apply gPG_dec|apply gI_var|apply gG_var|apply gPG_var)<;>intro _))
 refine callV_of (by rw[hC];exact clone_p w n s l hl h0) rfl rfl rfl ?_
 repeat' (first|(simp (disch:=first|omega|assumption|exact bd (by with_unfolding_all rfl)|exact Or.inl rfl|exact Or.inl trivial|exact okL_map _ (fun _=>rfl) _|(simp only[VVlen]<;>omega)|fail) only[VV0,VV1,VV2,VV3,VV4,VV5,VV6,VV7,VV8,VV9,mkFnV,vargs,slotsL,opdsA,Nat.reduceEqDiff,Nat.reduceLT,Nat.reduceAdd,Nat.reduceBEq,Int.reduceAdd,Int.reduceSub,Int.reduceLT,Int.reduceLE,Int.reduceEq,Int.reduceNeg,↓reduceIte,reduceCtorEq,scL,scD,expand,List.replicate,vsh,shH,shO,fzSL,fzS])|apply gC_drawW|((first|apply gI_dec|apply gG_dec|apply gPG_dec|apply gI_var|apply gG_var|apply gPG_var)<;>intro _))
 refine reverse_w w n hC 1 3 2 l hl rfl (Nat.zero_le _) ?_
 repeat' (first|(simp (disch:=first|omega|assumption|exact bd (by with_unfolding_all rfl)|exact Or.inl rfl|exact Or.inl trivial|exact okL_map _ (fun _=>rfl) _|(simp only[VVlen]<;>omega)|fail) only[VV0,VV1,VV2,VV3,VV4,VV5,VV6,VV7,VV8,VV9,mkFnV,vargs,slotsL,opdsA,Nat.reduceEqDiff,Nat.reduceLT,Nat.reduceAdd,Nat.reduceBEq,Int.reduceAdd,Int.reduceSub,Int.reduceLT,Int.reduceLE,Int.reduceEq,Int.reduceNeg,↓reduceIte,reduceCtorEq,scL,scD,expand,List.replicate])|apply gC_drawW|((first|apply gI_dec|apply gG_dec|apply gPG_dec|apply gI_var|apply gG_var|apply gPG_var)<;>intro _))
 exact weak_to [(1,0)] 1 hn rfl rfl rfl rfl
end
end Go.Proofs.YtgglaaldlegckaaDoor
namespace Go.Proofs.YtgglaaldlegckaaDoor
open Go Go.Itp
set_option maxRecDepth 100000
set_option maxHeartbeats 1000000
set_option linter.unusedSimpArgs false
abbrev wayV (t:Bool):V:= .ifc (if t=true then 95 else 96) (.agg [])
section
variable (w:World) (n:Nat)
theorem of_p (t:Bool):VSpec (EN w (n+1)) 44 [.sc (.bool t)] (wayV t) ⟨[],0,0⟩:=by
 refine vspec_flat rfl rfl (fun _ _=>rfl) (Nat.le_of_ble_eq_true rfl) (oldVals w) rfl fun C hC h0=>?_
 cases t
 all_goals
  repeat' (first|(simp (disch:=first|omega|assumption|exact bd (by with_unfolding_all rfl)|exact Or.inl rfl|exact Or.inl trivial|exact okL_map _ (fun _=>rfl) _|(simp only[VVlen]<;>omega)|fail) only[VV0,VV1,VV2,VV3,VV4,VV5,VV6,VV7,VV8,VV9,mkFnV,vargs,slotsL,opdsA,Nat.reduceEqDiff,Nat.reduceLT,Nat.reduceAdd,Nat.reduceBEq,Int.reduceAdd,Int.reduceSub,Int.reduceLT,Int.reduceLE,Int.reduceEq,Int.reduceNeg,↓reduceIte,reduceCtorEq,scL,scD,expand,List.replicate,c44,wayV,mkIfV])|apply gC_drawW|((first|apply gI_dec|apply gG_dec|apply gPG_dec|apply gI_var|apply gG_var|apply gPG_var)<;>intro _))
  exact weak_flat rfl h0 rfl
theorem wind_g (t:Bool) (s:Nat) (l:List Int) (p:Nat) (h0:0<l.length) (hl:l.length≤5000) (hp:p≤4000) {C:Ctx} (hC:C.E=EN w (n+2)) (hn:C.w0.nx=0):
  gC C c43.code [] (vargs 0 [wayV t,.sl s l.length (l.map iD),.sc (.int .i64 p)]) ⟨[],0,0⟩ (RetV C c43.res (.gr 2 0 (windP l t p).length) ⟨[(0,.gro 3 1 false ((windP l t p).map iD))],1,0⟩):=by
 simp (disch:=first|omega|assumption|exact bd (by with_unfolding_all rfl)|exact Or.inl rfl|exact Or.inl trivial|exact okL_map _ (fun _=>rfl) _|(simp only[VVlen]<;>omega)|fail) only[VV0,VV1,VV2,VV3,VV4,VV5,VV6,VV7,VV8,VV9,mkFnV,vargs,slotsL,opdsA,Nat.reduceEqDiff,Nat.reduceLT,Nat.reduceAdd,Nat.reduceBEq,Int.reduceAdd,Int.reduceSub,Int.reduceLT,Int.reduceLE,Int.reduceEq,Int.reduceNeg,↓reduceIte,reduceCtorEq,scL,scD,expand,List.replicate,c43]
 refine g_while (fun m fr st=>∃ k:Nat,m=p - k∧k≤p∧fr= [(0,wayV t),(1,.sl s l.length (l.map iD)),(7,.gr 2 0 (windP l t k).length),(9,.sc (.int .i64 p)),(10,.sc (.int .i64 k))]∧st=⟨[(0,.gro 3 1 false ((windP l t k).map iD))],1,0⟩) p ?_ ⟨_,_,weak_nilSlot 7 3 1 rfl,0,?_⟩ ?_
 ·rw[hC,callP_rounds];unfold many;omega
 ·exact ⟨by omega,by omega,rfl,rfl⟩
 ·rintro m fr st ⟨k,rfl,hk,rfl,rfl⟩
  by_cases hlt:k<p
  ·have hwl:=windP_len l t k
   have hwb:(windP l t k).length≤20000000:=by rw[hwl];exact Nat.le_trans (Nat.mul_le_mul (show k≤4000 by omega) hl) (by omega)
   have hlk:((windP l t k).map iD).length=(windP l t k).length*1:=by simp
   have hll:(l.map iD).length=l.length*1:=by simp
   have hlr:(l.reverse.map iD).length=l.length*1:=by simp
   have hne:l.length ≠ 0:=by omega
   cases t
   ·repeat' (first|(simp (disch:=first|omega|assumption|exact bd (by with_unfolding_all rfl)|exact Or.inl rfl|exact Or.inl trivial|exact okL_map _ (fun _=>rfl) _|(simp only[VVlen]<;>omega)|fail) only[VV0,VV1,VV2,VV3,VV4,VV5,VV6,VV7,VV8,VV9,mkFnV,vargs,slotsL,opdsA,Nat.reduceEqDiff,Nat.reduceLT,Nat.reduceAdd,Nat.reduceBEq,Int.reduceAdd,Int.reduceSub,Int.reduceLT,Int.reduceLE,Int.reduceEq,Int.reduceNeg,↓reduceIte,reduceCtorEq,scL,scD,expand,List.replicate,c43l0,wayV])|apply gC_drawW|((first|apply gI_dec|apply gG_dec|apply gPG_dec|apply gI_var|apply gG_var|apply gPG_var)<;>intro _))
    refine callV_of (by rw[hC];exact straight_p w (n+1) s l.length k (l.map iD) (.inr hne)) rfl rfl rfl ?_
    repeat' (first|(simp (disch:=first|omega|assumption|exact bd (by with_unfolding_all rfl)|exact Or.inl rfl|exact Or.inl trivial|exact okL_map _ (fun _=>rfl) _|(simp only[VVlen]<;>omega)|fail) only[VV0,VV1,VV2,VV3,VV4,VV5,VV6,VV7,VV8,VV9,mkFnV,vargs,slotsL,opdsA,Nat.reduceEqDiff,Nat.reduceLT,Nat.reduceAdd,Nat.reduceBEq,Int.reduceAdd,Int.reduceSub,Int.reduceLT,Int.reduceLE,Int.reduceEq,Int.reduceNeg,↓reduceIte,reduceCtorEq,scL,scD,expand,List.replicate,vsh,shH,fzSL,fzS])|apply gC_drawW|((first|apply gI_dec|apply gG_dec|apply gPG_dec|apply gI_var|apply gG_var|apply gPG_var)<;>intro _))
    refine ⟨_,_,_,by omega,weak_to [(1,0)] 1 hn rfl rfl rfl rfl,k+1,rfl,hlt,?_,?_⟩
    ·simp[windP,renF,vren,vrenL,aget_cons]
    ·simp[windP,renH,aget_cons,renO]
   ·rcases Nat.mod_two_eq_zero_or_one k with hpar|hpar
    ·repeat' (first|(simp (disch:=first|omega|assumption|exact bd (by with_unfolding_all rfl)|exact Or.inl rfl|exact Or.inl trivial|exact okL_map _ (fun _=>rfl) _|(simp only[VVlen]<;>omega)|fail) only[VV0,VV1,VV2,VV3,VV4,VV5,VV6,VV7,VV8,VV9,mkFnV,vargs,slotsL,opdsA,Nat.reduceEqDiff,Nat.reduceLT,Nat.reduceAdd,Nat.reduceBEq,Int.reduceAdd,Int.reduceSub,Int.reduceLT,Int.reduceLE,Int.reduceEq,Int.reduceNeg,↓reduceIte,reduceCtorEq,scL,scD,expand,List.replicate,c43l0,wayV])|apply gC_drawW|((first|apply gI_dec|apply gG_dec|apply gPG_dec|apply gI_var|apply gG_var|apply gPG_var)<;>intro _))
     refine callV_of (by rw[hC];exact turnEven_p w n s l.length k (by omega) hpar (l.map iD) (.inr hne)) rfl rfl rfl ?_
     repeat' (first|(simp (disch:=first|omega|assumption|exact bd (by with_unfolding_all rfl)|exact Or.inl rfl|exact Or.inl trivial|exact okL_map _ (fun _=>rfl) _|(simp only[VVlen]<;>omega)|fail) only[VV0,VV1,VV2,VV3,VV4,VV5,VV6,VV7,VV8,VV9,mkFnV,vargs,slotsL,opdsA,Nat.reduceEqDiff,Nat.reduceLT,Nat.reduceAdd,Nat.reduceBEq,Int.reduceAdd,Int.reduceSub,Int.reduceLT,Int.reduceLE,Int.reduceEq,Int.reduceNeg,↓reduceIte,reduceCtorEq,scL,scD,expand,List.replicate,vsh,shH,fzSL,fzS])|apply gC_drawW|((first|apply gI_dec|apply gG_dec|apply gPG_dec|apply gI_var|apply gG_var|apply gPG_var)<;>intro _))
     refine ⟨_,_,_,by omega,weak_to [(1,0)] 1 hn rfl rfl rfl rfl,k+1,rfl,hlt,?_,?_⟩
     ·simp[windP,renF,vren,vrenL,aget_cons,hpar]
     ·simp[windP,renH,aget_cons,renO,hpar]
    ·repeat' (first|(simp (disch:=first|omega|assumption|exact bd (by with_unfolding_all rfl)|exact Or.inl rfl|exact Or.inl trivial|exact okL_map _ (fun _=>rfl) _|(simp only[VVlen]<;>omega)|fail) only[VV0,VV1,VV2,VV3,VV4,VV5,VV6,VV7,VV8,VV9,mkFnV,vargs,slotsL,opdsA,Nat.reduceEqDiff,Nat.reduceLT,Nat.reduceAdd,Nat.reduceBEq,Int.reduceAdd,Int.reduceSub,Int.reduceLT,Int.reduceLE,Int.reduceEq,Int.reduceNeg,↓reduceIte,reduceCtorEq,scL,scD,expand,List.replicate,c43l0,wayV])|apply gC_drawW|((first|apply gI_dec|apply gG_dec|apply gPG_dec|apply gI_var|apply gG_var|apply gPG_var)<;>intro _))
     refine callV_of (by rw[hC];exact turnOdd_p w n s k (by omega) hpar l (by omega) h0) rfl rfl rfl ?_
     repeat' (first|(simp (disch:=first|omega|assumption|exact bd (by with_unfolding_all rfl)|exact Or.inl rfl|exact Or.inl trivial|exact okL_map _ (fun _=>rfl) _|(simp only[VVlen]<;>omega)|fail) only[VV0,VV1,VV2,VV3,VV4,VV5,VV6,VV7,VV8,VV9,mkFnV,vargs,slotsL,opdsA,Nat.reduceEqDiff,Nat.reduceLT,Nat.reduceAdd,Nat.reduceBEq,Int.reduceAdd,Int.reduceSub,Int.reduceLT,Int.reduceLE,Int.reduceEq,Int.reduceNeg,↓reduceIte,reduceCtorEq,scL,scD,expand,List.replicate,vsh,shH,shO,fzSL,fzS])|apply gC_drawW|((first|apply gI_dec|apply gG_dec|apply gPG_dec|apply gI_var|apply gG_var|apply gPG_var)<;>intro _))
     refine ⟨_,_,_,by omega,weak_to [(2,0)] 1 hn rfl rfl rfl rfl,k+1,rfl,hlt,?_,?_⟩
     ·simp[windP,renF,vren,vrenL,aget_cons,hpar]
     ·simp[windP,renH,aget_cons,renO,hpar]
  ·have:k=p:=by omega
   subst this
   repeat' (first|(simp (disch:=first|omega|assumption|exact bd (by with_unfolding_all rfl)|exact Or.inl rfl|exact Or.inl trivial|exact okL_map _ (fun _=>rfl) _|(simp only[VVlen]<;>omega)|fail) only[VV0,VV1,VV2,VV3,VV4,VV5,VV6,VV7,VV8,VV9,mkFnV,vargs,slotsL,opdsA,Nat.reduceEqDiff,Nat.reduceLT,Nat.reduceAdd,Nat.reduceBEq,Int.reduceAdd,Int.reduceSub,Int.reduceLT,Int.reduceLE,Int.reduceEq,Int.reduceNeg,↓reduceIte,reduceCtorEq,scL,scD,expand,List.replicate,c43l0])|apply gC_drawW|((first|apply gI_dec|apply gG_dec|apply gPG_dec|apply gI_var|apply gG_var|apply gPG_var)<;>intro _))
   exact .refl _ _
theorem wind_p (t:Bool) (s:Nat) (l:List Int) (p:Nat) (h0:0<l.length) (hl:l.length≤5000) (hp:p≤4000):
  VSpec (EN w (n+3)) 43 [wayV t,.sl s l.length (l.map iD),.sc (.int .i64 p)] (.gr 2 0 (windP l t p).length) ⟨[(0,.gro 3 1 false ((windP l t p).map iD))],1,0⟩:=
 vspec_g rfl rfl (fun _ _=>rfl) (Nat.le_of_ble_eq_true rfl) (oldVals w) (retOK_gr (map_nil_iff rfl)) rfl fun C hC hn=>wind_g w n t s l p h0 hl hp hC hn
theorem wind_1 (t:Bool) (s:Nat) (l:List Int) (p:Nat) (h0:0<l.length) (hl:l.length≤5000) (hp:p≤4000) (hp0:0<p):
  VSpec1 (EN w (n+3)) 43 ⟨[],0,0⟩ [wayV t,.sl s l.length (l.map iD),.sc (.int .i64 p)] (.gr 2 0 (windP l t p).length) (.gro 3 1 false ((windP l t p).map iD)):=by
 have hpos:0<(windP l t p).length:=by rw[windP_len];exact Nat.mul_pos hp0 h0
 refine vspec1_g rfl rfl (fun _ _=>rfl) (Nat.le_of_ble_eq_true rfl) (by omega) (fun e=>by have:=congrArg List.length e;simp at this;rw[this] at hpos;simp at hpos) (fun d hd=>?_) fun _ hC hn=>⟨_,0,rfl,Nat.le_refl _,wind_g w n t s l p h0 hl hp hC hn⟩
 rw[List.mem_map] at hd
 obtain ⟨x,_,rfl⟩:=hd
 exact ⟨_,rfl⟩
end
end Go.Proofs.YtgglaaldlegckaaDoor
namespace Go.Proofs.YtgglaaldlegckaaDoor
open Go Go.Itp
set_option maxRecDepth 100000
set_option maxHeartbeats 1000000
set_option linter.unusedSimpArgs false
def cone (i n:Nat) (t:Bool):Nat:=if t=true∧i / n % 2=1 then n - 1 - i % n else i % n
def windR (l:List Int) (t:Bool) (N:Nat):List Int:=(List.range N).map fun i=>l[cone i l.length t]!
theorem windR_len (l:List Int) (t:Bool) (N:Nat):(windR l t N).length=N:=by simp[windR]
theorem wind_eq (l:List Int) (t:Bool) (h:0<l.length):∀ p,windP l t p=windR l t (p*l.length)
 |0=>by simp[windP,windR]
 |p+1=>by
  have key:windR l t ((p+1)*l.length)=windR l t (p*l.length)++(List.range l.length).map fun j=>l[cone (p*l.length+j) l.length t]! :=by
   unfold windR
   rw[Nat.add_mul,Nat.one_mul,List.range_add,List.map_append,List.map_map]
   rfl
  rw[key,windP,wind_eq l t h p]
  congr 1
  refine List.ext_getElem (by split<;>simp) fun i h1 h2=>?_
  have hi:i<l.length:=by simpa using h2
  have e1:(p*l.length+i) / l.length=p:=by
   rw[Nat.mul_comm,Nat.mul_add_div h,Nat.div_eq_of_lt hi,Nat.add_zero]
  have e2:(p*l.length+i) % l.length=i:=by
   rw[Nat.mul_comm,Nat.mul_add_mod,Nat.mod_eq_of_lt hi]
  simp only[List.getElem_map,List.getElem_range,cone,e1,e2]
  by_cases hc:t=true∧p % 2=1
  ·simp only[if_pos hc]
   rw[List.getElem_reverse,getElem!_pos l (l.length - 1 - i) (by omega)]
  ·simp only[if_neg hc]
   rw[getElem!_pos l i hi]
abbrev resV (r:List Int × Int):V:= .tup [.gr 2 0 r.1.length,.sc (.int .i64 r.2)]
abbrev resS (r:List Int × Int):VSt:=⟨[(0,.gro 3 1 false (r.1.map iD))],1,0⟩
def windF (l:List Int) (p:Int) (t:Bool):List Int × Int:=
 if l.length=0∨64<l.length then ([],2) else if chk l ≠ 0 then ([],8) else if p<0∨4000<p then ([],2) else if 4000<p*l.length then ([],4) else (windR l t (p.toNat*l.length),0)
section
variable (w:World) (n:Nat)
end
end Go.Proofs.YtgglaaldlegckaaDoor
namespace Go.Proofs.YtgglaaldlegckaaDoor
open Go Go.Itp
set_option maxRecDepth 100000
set_option maxHeartbeats 1000000
set_option linter.unusedSimpArgs false
theorem eq_of_all {a l:List Int} (h:a.length=l.length) (ha:∀ j,j<l.length→a[j]! =l[j]!):a=l:=by
 refine List.ext_getElem h fun i h1 h2=>?_
 have:=ha i h2
 rwa [getElem!_pos a i h1,getElem!_pos l i h2] at this
section
variable (w:World) (n:Nat)
theorem pwind_p (s:Nat) (l:List Int) (p:Int) (t:Bool) (hl:l.length≤5000):VSpec (EN w (n+6)) 26 [.sl s l.length (l.map iD),.sc (.int .i64 p),.sc (.bool t)] (resV (windF l p t)) (resS (windF l p t)):=by
 refine vspec_g rfl rfl (fun _ _=>rfl) (Nat.le_of_ble_eq_true rfl) (oldVals w) (retOK_tgr (map_nil_iff rfl)) rfl fun C hC h0=>?_
 by_cases c1:l.length=0∨64<l.length
 ·have e:windF l p t=([],2):=if_pos c1
  rw[e]
  rcases c1 with c1|c1
  all_goals
   repeat' (first|(simp (disch:=first|omega|assumption|exact bd (by with_unfolding_all rfl)|exact Or.inl rfl|exact Or.inl trivial|exact okL_map _ (fun _=>rfl) _|(simp only[VVlen]<;>omega)|fail) only[VV0,VV1,VV2,VV3,VV4,VV5,VV6,VV7,VV8,VV9,mkFnV,vargs,slotsL,opdsA,Nat.reduceEqDiff,Nat.reduceLT,Nat.reduceAdd,Nat.reduceBEq,Int.reduceAdd,Int.reduceSub,Int.reduceLT,Int.reduceLE,Int.reduceEq,Int.reduceNeg,↓reduceIte,reduceCtorEq,scL,scD,expand,List.replicate,c26,c1])|apply gC_drawW|((first|apply gI_dec|apply gG_dec|apply gPG_dec|apply gI_var|apply gG_var|apply gPG_var)<;>intro _))
   all_goals first|exact weak_tupNil 3 1 rfl h0 rfl|exact absurd trivial ‹¬True›|(exfalso;omega)
 have c1a:¬ l.length=0:=fun h=>c1 (.inl h)
 have c1b:¬ 64<l.length:=fun h=>c1 (.inr h)
 have hck:=fun st=>(check_p w n s l (by omega)).of hC rfl st rfl
 by_cases c2:chk l ≠ 0
 ·have e:windF l p t=([],8):=by unfold windF;rw[if_neg c1,if_pos c2]
  rw[e]
  repeat' (first|(simp (disch:=first|omega|assumption|exact bd (by with_unfolding_all rfl)|exact Or.inl rfl|exact Or.inl trivial|exact okL_map _ (fun _=>rfl) _|(simp only[VVlen]<;>omega)|fail) only[VV0,VV1,VV2,VV3,VV4,VV5,VV6,VV7,VV8,VV9,mkFnV,vargs,slotsL,opdsA,Nat.reduceEqDiff,Nat.reduceLT,Nat.reduceAdd,Nat.reduceBEq,Int.reduceAdd,Int.reduceSub,Int.reduceLT,Int.reduceLE,Int.reduceEq,Int.reduceNeg,↓reduceIte,reduceCtorEq,scL,scD,expand,List.replicate,c26])|apply gC_drawW|((first|apply gI_dec|apply gG_dec|apply gPG_dec|apply gI_var|apply gG_var|apply gPG_var)<;>intro _))
  refine callV_flat (hck _) ?_
  repeat' (first|(simp (disch:=first|omega|assumption|exact bd (by with_unfolding_all rfl)|exact Or.inl rfl|exact Or.inl trivial|exact okL_map _ (fun _=>rfl) _|(simp only[VVlen]<;>omega)|fail) only[VV0,VV1,VV2,VV3,VV4,VV5,VV6,VV7,VV8,VV9,mkFnV,vargs,slotsL,opdsA,Nat.reduceEqDiff,Nat.reduceLT,Nat.reduceAdd,Nat.reduceBEq,Int.reduceAdd,Int.reduceSub,Int.reduceLT,Int.reduceLE,Int.reduceEq,Int.reduceNeg,↓reduceIte,reduceCtorEq,scL,scD,expand,List.replicate])|apply gC_drawW|((first|apply gI_dec|apply gG_dec|apply gPG_dec|apply gI_var|apply gG_var|apply gPG_var)<;>intro _))
  all_goals first|exact weak_tupNil 3 1 rfl h0 rfl|exact absurd trivial ‹¬True›|contradiction
 have c2':chk l=0:=Classical.not_not.1 c2
 rw[c2'] at hck
 by_cases c3:p<0∨4000<p
 ·have e:windF l p t=([],2):=by unfold windF;rw[if_neg c1,if_neg c2,if_pos c3]
  rw[e]
  rcases c3 with c3|c3
  all_goals
   repeat' (first|(simp (disch:=first|omega|assumption|exact bd (by with_unfolding_all rfl)|exact Or.inl rfl|exact Or.inl trivial|exact okL_map _ (fun _=>rfl) _|(simp only[VVlen]<;>omega)|fail) only[VV0,VV1,VV2,VV3,VV4,VV5,VV6,VV7,VV8,VV9,mkFnV,vargs,slotsL,opdsA,Nat.reduceEqDiff,Nat.reduceLT,Nat.reduceAdd,Nat.reduceBEq,Int.reduceAdd,Int.reduceSub,Int.reduceLT,Int.reduceLE,Int.reduceEq,Int.reduceNeg,↓reduceIte,reduceCtorEq,scL,scD,expand,List.replicate,c26])|apply gC_drawW|((first|apply gI_dec|apply gG_dec|apply gPG_dec|apply gI_var|apply gG_var|apply gPG_var)<;>intro _))
   refine callV_flat (hck _) ?_
   repeat' (first|(simp (disch:=first|omega|assumption|exact bd (by with_unfolding_all rfl)|exact Or.inl rfl|exact Or.inl trivial|exact okL_map _ (fun _=>rfl) _|(simp only[VVlen]<;>omega)|fail) only[VV0,VV1,VV2,VV3,VV4,VV5,VV6,VV7,VV8,VV9,mkFnV,vargs,slotsL,opdsA,Nat.reduceEqDiff,Nat.reduceLT,Nat.reduceAdd,Nat.reduceBEq,Int.reduceAdd,Int.reduceSub,Int.reduceLT,Int.reduceLE,Int.reduceEq,Int.reduceNeg,↓reduceIte,reduceCtorEq,scL,scD,expand,List.replicate])|apply gC_drawW|((first|apply gI_dec|apply gG_dec|apply gPG_dec|apply gI_var|apply gG_var|apply gPG_var)<;>intro _))
   all_goals first|exact weak_tupNil 3 1 rfl h0 rfl|exact absurd trivial ‹¬True›
 obtain ⟨q,rfl⟩:∃ q:Nat,p=q:=⟨p.toNat,by omega⟩
 have hpl:(q:Int)*(l.length:Int)=((q*l.length:Nat):Int):=by simp
 have hq:q≤4000:=by omega
 have hqb:q*l.length≤4000*64:=Nat.mul_le_mul hq (by omega)
 by_cases c4:4000<(q:Int)*l.length
 ·have e:windF l q t=([],4):=by unfold windF;rw[if_neg c1,if_neg c2,if_neg c3,if_pos c4]
  rw[e]
  rw[hpl] at c4
  repeat' (first|(simp (disch:=first|omega|assumption|exact bd (by with_unfolding_all rfl)|exact Or.inl rfl|exact Or.inl trivial|exact okL_map _ (fun _=>rfl) _|(simp only[VVlen]<;>omega)|fail) only[VV0,VV1,VV2,VV3,VV4,VV5,VV6,VV7,VV8,VV9,mkFnV,vargs,slotsL,opdsA,Nat.reduceEqDiff,Nat.reduceLT,Nat.reduceAdd,Nat.reduceBEq,Int.reduceAdd,Int.reduceSub,Int.reduceLT,Int.reduceLE,Int.reduceEq,Int.reduceNeg,↓reduceIte,reduceCtorEq,scL,scD,expand,List.replicate,c26])|apply gC_drawW|((first|apply gI_dec|apply gG_dec|apply gPG_dec|apply gI_var|apply gG_var|apply gPG_var)<;>intro _))
  refine callV_flat (hck _) ?_
  repeat' (first|(simp (disch:=first|omega|assumption|exact bd (by with_unfolding_all rfl)|exact Or.inl rfl|exact Or.inl trivial|exact okL_map _ (fun _=>rfl) _|(simp only[VVlen]<;>omega)|fail) only[VV0,VV1,VV2,VV3,VV4,VV5,VV6,VV7,VV8,VV9,mkFnV,vargs,slotsL,opdsA,Nat.reduceEqDiff,Nat.reduceLT,Nat.reduceAdd,Nat.reduceBEq,Int.reduceAdd,Int.reduceSub,Int.reduceLT,Int.reduceLE,Int.reduceEq,Int.reduceNeg,↓reduceIte,reduceCtorEq,scL,scD,expand,List.replicate,hpl])|apply gC_drawW|((first|apply gI_dec|apply gG_dec|apply gPG_dec|apply gI_var|apply gG_var|apply gPG_var)<;>intro _))
  all_goals first|exact weak_tupNil 3 1 rfl h0 rfl|exact absurd trivial ‹¬True›
 have e:windF l q t=(windP l t q,0):=by unfold windF;rw[if_neg c1,if_neg c2,if_neg c3,if_neg c4,wind_eq l t (by omega)];rfl
 rw[e]
 rw[hpl] at c4
 repeat' (first|(simp (disch:=first|omega|assumption|exact bd (by with_unfolding_all rfl)|exact Or.inl rfl|exact Or.inl trivial|exact okL_map _ (fun _=>rfl) _|(simp only[VVlen]<;>omega)|fail) only[VV0,VV1,VV2,VV3,VV4,VV5,VV6,VV7,VV8,VV9,mkFnV,vargs,slotsL,opdsA,Nat.reduceEqDiff,Nat.reduceLT,Nat.reduceAdd,Nat.reduceBEq,Int.reduceAdd,Int.reduceSub,Int.reduceLT,Int.reduceLE,Int.reduceEq,Int.reduceNeg,↓reduceIte,reduceCtorEq,scL,scD,expand,List.replicate,c26])|apply gC_drawW|((first|apply gI_dec|apply gG_dec|apply gPG_dec|apply gI_var|apply gG_var|apply gPG_var)<;>intro _))
 refine callV_flat (hck _) ?_
 repeat' (first|(simp (disch:=first|omega|assumption|exact bd (by with_unfolding_all rfl)|exact Or.inl rfl|exact Or.inl trivial|exact okL_map _ (fun _=>rfl) _|(simp only[VVlen]<;>omega)|fail) only[VV0,VV1,VV2,VV3,VV4,VV5,VV6,VV7,VV8,VV9,mkFnV,vargs,slotsL,opdsA,Nat.reduceEqDiff,Nat.reduceLT,Nat.reduceAdd,Nat.reduceBEq,Int.reduceAdd,Int.reduceSub,Int.reduceLT,Int.reduceLE,Int.reduceEq,Int.reduceNeg,↓reduceIte,reduceCtorEq,scL,scD,expand,List.replicate,hpl])|apply gC_drawW|((first|apply gI_dec|apply gG_dec|apply gPG_dec|apply gI_var|apply gG_var|apply gPG_var)<;>intro _))
 refine callV_flat ((fun st=>(of_p w (n+4) t).of hC rfl st rfl) _) ?_
 repeat' (first|(simp (disch:=first|omega|assumption|exact bd (by with_unfolding_all rfl)|exact Or.inl rfl|exact Or.inl trivial|exact okL_map _ (fun _=>rfl) _|(simp only[VVlen]<;>omega)|fail) only[VV0,VV1,VV2,VV3,VV4,VV5,VV6,VV7,VV8,VV9,mkFnV,vargs,slotsL,opdsA,Nat.reduceEqDiff,Nat.reduceLT,Nat.reduceAdd,Nat.reduceBEq,Int.reduceAdd,Int.reduceSub,Int.reduceLT,Int.reduceLE,Int.reduceEq,Int.reduceNeg,↓reduceIte,reduceCtorEq,scL,scD,expand,List.replicate])|apply gC_drawW|((first|apply gI_dec|apply gG_dec|apply gPG_dec|apply gI_var|apply gG_var|apply gPG_var)<;>intro _))
 refine callV_of (by rw[hC];exact wind_p w (n+2) t s l q (by omega) hl hq) rfl rfl rfl ?_
 repeat' (first|(simp (disch:=first|omega|assumption|exact bd (by with_unfolding_all rfl)|exact Or.inl rfl|exact Or.inl trivial|exact okL_map _ (fun _=>rfl) _|(simp only[VVlen]<;>omega)|fail) only[VV0,VV1,VV2,VV3,VV4,VV5,VV6,VV7,VV8,VV9,mkFnV,vargs,slotsL,opdsA,Nat.reduceEqDiff,Nat.reduceLT,Nat.reduceAdd,Nat.reduceBEq,Int.reduceAdd,Int.reduceSub,Int.reduceLT,Int.reduceLE,Int.reduceEq,Int.reduceNeg,↓reduceIte,reduceCtorEq,scL,scD,expand,List.replicate,vsh,shH,shO,fzSL,fzS])|apply gC_drawW|((first|apply gI_dec|apply gG_dec|apply gPG_dec|apply gI_var|apply gG_var|apply gPG_var)<;>intro _))
 exact .refl _ _
theorem equal_o (st:VSt) (o t s:Nat) (z:Bool) (a l:List Int) (ho:aget st.own o=some (.gro t 1 z (a.map iD))) (ha:a.length≤140737488351232) (hl:l.length≤140737488351232):VSpecO (EN w (n+1)) 42 st [.gr 2 o a.length,.sl s l.length (l.map iD)] (.sc (.bool (decide (a=l)))):=by
 refine vspecO_g rfl rfl (fun _ _=>rfl) (Nat.le_of_ble_eq_true rfl) rfl fun C hC h0=>⟨⟨st.own,st.next,st.next⟩,?_⟩
 by_cases hlen:(a.length:Int)=(l.length:Int)
 case neg=>
  rw[decide_eq_false (fun h=>hlen (by rw[h]))]
  repeat' (first|(simp (disch:=first|omega|assumption|exact bd (by with_unfolding_all rfl)|exact Or.inl rfl|exact Or.inl trivial|exact okL_map _ (fun _=>rfl) _|(simp only[VVlen]<;>omega)|fail) only[VV0,VV1,VV2,VV3,VV4,VV5,VV6,VV7,VV8,VV9,mkFnV,vargs,slotsL,opdsA,Nat.reduceEqDiff,Nat.reduceLT,Nat.reduceAdd,Nat.reduceBEq,Int.reduceAdd,Int.reduceSub,Int.reduceLT,Int.reduceLE,Int.reduceEq,Int.reduceNeg,↓reduceIte,reduceCtorEq,scL,scD,expand,List.replicate,c42])|apply gC_drawW|((first|apply gI_dec|apply gG_dec|apply gPG_dec|apply gI_var|apply gG_var|apply gPG_var)<;>intro _))
  all_goals first|exact .refl _ _|exact absurd ‹_› hlen
 have hlen':a.length=l.length:=by omega
 repeat' (first|(simp (disch:=first|omega|assumption|exact bd (by with_unfolding_all rfl)|exact Or.inl rfl|exact Or.inl trivial|exact okL_map _ (fun _=>rfl) _|(simp only[VVlen]<;>omega)|fail) only[VV0,VV1,VV2,VV3,VV4,VV5,VV6,VV7,VV8,VV9,mkFnV,vargs,slotsL,opdsA,Nat.reduceEqDiff,Nat.reduceLT,Nat.reduceAdd,Nat.reduceBEq,Int.reduceAdd,Int.reduceSub,Int.reduceLT,Int.reduceLE,Int.reduceEq,Int.reduceNeg,↓reduceIte,reduceCtorEq,scL,scD,expand,List.replicate,c42])|apply gC_drawW|((first|apply gI_dec|apply gG_dec|apply gPG_dec|apply gI_var|apply gG_var|apply gPG_var)<;>intro _))
 all_goals try exact absurd hlen ‹¬(a.length:Int)=(l.length:Int)›
 refine g_while (fun m fr t=>∃ k:Nat,m=l.length - k∧k≤l.length∧(∀ j,j<k→a[j]! =l[j]!)∧fr= [(0,.gr 2 o a.length),(1,.sl s l.length (l.map iD)),(12,.sc (.int .i64 a.length)),(13,.sc (.int .i64 k))]∧t=⟨st.own,st.next,st.next⟩) l.length ?_ ⟨_,_,.refl _ _,0,?_⟩ ?_
 ·rw[hC,callP_rounds];unfold many;omega
 ·exact ⟨by omega,by omega,(fun j hj=>absurd hj (Nat.not_lt_zero _)),rfl,rfl⟩
 ·rintro m fr t ⟨k,rfl,hk,hj,rfl,rfl⟩
  by_cases hlt:k<l.length
  ·have hka:k<a.length:=by omega
   by_cases he:a[k]! =l[k]!
   ·repeat' (first|(simp (disch:=first|omega|assumption|exact bd (by with_unfolding_all rfl)|exact Or.inl rfl|exact Or.inl trivial|exact okL_map _ (fun _=>rfl) _|(simp only[VVlen]<;>omega)|fail) only[VV0,VV1,VV2,VV3,VV4,VV5,VV6,VV7,VV8,VV9,mkFnV,vargs,slotsL,opdsA,Nat.reduceEqDiff,Nat.reduceLT,Nat.reduceAdd,Nat.reduceBEq,Int.reduceAdd,Int.reduceSub,Int.reduceLT,Int.reduceLE,Int.reduceEq,Int.reduceNeg,↓reduceIte,reduceCtorEq,scL,scD,expand,List.replicate,c42l0,iD_dv,ho])|apply gC_drawW|((first|apply gI_dec|apply gG_dec|apply gPG_dec|apply gI_var|apply gG_var|apply gPG_var)<;>intro _))
    all_goals first|exact ⟨_,_,_,by omega,.refl _ _,k+1,rfl,hlt,(fun j h=>by rcases Nat.lt_succ_iff_lt_or_eq.1 h with h|h;exact hj j h;subst h;exact he),rfl,rfl⟩|exact absurd he ‹_›
   ·rw[decide_eq_false (fun h=>he (by rw[h]))]
    repeat' (first|(simp (disch:=first|omega|assumption|exact bd (by with_unfolding_all rfl)|exact Or.inl rfl|exact Or.inl trivial|exact okL_map _ (fun _=>rfl) _|(simp only[VVlen]<;>omega)|fail) only[VV0,VV1,VV2,VV3,VV4,VV5,VV6,VV7,VV8,VV9,mkFnV,vargs,slotsL,opdsA,Nat.reduceEqDiff,Nat.reduceLT,Nat.reduceAdd,Nat.reduceBEq,Int.reduceAdd,Int.reduceSub,Int.reduceLT,Int.reduceLE,Int.reduceEq,Int.reduceNeg,↓reduceIte,reduceCtorEq,scL,scD,expand,List.replicate,c42l0,iD_dv,ho])|apply gC_drawW|((first|apply gI_dec|apply gG_dec|apply gPG_dec|apply gI_var|apply gG_var|apply gPG_var)<;>intro _))
    all_goals first|exact .refl _ _|exact absurd ‹_› he
  ·have:k=l.length:=by omega
   subst this
   rw[decide_eq_true (eq_of_all hlen' hj)]
   repeat' (first|(simp (disch:=first|omega|assumption|exact bd (by with_unfolding_all rfl)|exact Or.inl rfl|exact Or.inl trivial|exact okL_map _ (fun _=>rfl) _|(simp only[VVlen]<;>omega)|fail) only[VV0,VV1,VV2,VV3,VV4,VV5,VV6,VV7,VV8,VV9,mkFnV,vargs,slotsL,opdsA,Nat.reduceEqDiff,Nat.reduceLT,Nat.reduceAdd,Nat.reduceBEq,Int.reduceAdd,Int.reduceSub,Int.reduceLT,Int.reduceLE,Int.reduceEq,Int.reduceNeg,↓reduceIte,reduceCtorEq,scL,scD,expand,List.replicate,c42l0])|apply gC_drawW|((first|apply gI_dec|apply gG_dec|apply gPG_dec|apply gI_var|apply gG_var|apply gPG_var)<;>intro _))
   exact .refl _ _
end
end Go.Proofs.YtgglaaldlegckaaDoor
namespace Go.Proofs.YtgglaaldlegckaaDoor
open Go Go.Itp
set_option maxRecDepth 100000
set_option maxHeartbeats 1000000
set_option linter.unusedSimpArgs false
def conesF (l:List Int) (k:Int) (t:Bool):List Int × Int:=
 if chk l ≠ 0 then ([],chk l) else if k<1∨64<k then ([],2) else if l.length=0∨l.length % k.toNat ≠ 0 then ([],26) else if windR (l.take k.toNat) t l.length=l then (l.take k.toNat,0) else ([],6)
section
variable (w:World) (n:Nat)
theorem pcones_p (s:Nat) (l:List Int) (p:Int) (t:Bool) (hl:l.length≤5000):VSpec (EN w (n+6)) 25 [.sl s l.length (l.map iD),.sc (.int .i64 p),.sc (.bool t)] (resV (conesF l p t)) (resS (conesF l p t)):=by
 refine vspec_g rfl rfl (fun _ _=>rfl) (Nat.le_of_ble_eq_true rfl) (oldVals w) (retOK_tgr (map_nil_iff rfl)) rfl fun C hC h0=>?_
 have hck:=fun st=>(check_p w n s l (by omega)).of hC rfl st rfl
 by_cases c2:chk l ≠ 0
 ·have e:conesF l p t=([],chk l):=if_pos c2
  rw[e]
  generalize chk l=x at c2 hck
  repeat' (first|(simp (disch:=first|omega|assumption|exact bd (by with_unfolding_all rfl)|exact Or.inl rfl|exact Or.inl trivial|exact okL_map _ (fun _=>rfl) _|(simp only[VVlen]<;>omega)|fail) only[VV0,VV1,VV2,VV3,VV4,VV5,VV6,VV7,VV8,VV9,mkFnV,vargs,slotsL,opdsA,Nat.reduceEqDiff,Nat.reduceLT,Nat.reduceAdd,Nat.reduceBEq,Int.reduceAdd,Int.reduceSub,Int.reduceLT,Int.reduceLE,Int.reduceEq,Int.reduceNeg,↓reduceIte,reduceCtorEq,scL,scD,expand,List.replicate,c25])|apply gC_drawW|((first|apply gI_dec|apply gG_dec|apply gPG_dec|apply gI_var|apply gG_var|apply gPG_var)<;>intro _))
  refine callV_flat (hck _) ?_
  repeat' (first|(simp (disch:=first|omega|assumption|exact bd (by with_unfolding_all rfl)|exact Or.inl rfl|exact Or.inl trivial|exact okL_map _ (fun _=>rfl) _|(simp only[VVlen]<;>omega)|fail) only[VV0,VV1,VV2,VV3,VV4,VV5,VV6,VV7,VV8,VV9,mkFnV,vargs,slotsL,opdsA,Nat.reduceEqDiff,Nat.reduceLT,Nat.reduceAdd,Nat.reduceBEq,Int.reduceAdd,Int.reduceSub,Int.reduceLT,Int.reduceLE,Int.reduceEq,Int.reduceNeg,↓reduceIte,reduceCtorEq,scL,scD,expand,List.replicate])|apply gC_drawW|((first|apply gI_dec|apply gG_dec|apply gPG_dec|apply gI_var|apply gG_var|apply gPG_var)<;>intro _))
  all_goals first|exact weak_tupNil 3 1 rfl h0 rfl|exact absurd trivial ‹¬True›|contradiction
 have c2':chk l=0:=Classical.not_not.1 c2
 rw[c2'] at hck
 by_cases c3:p<1∨64<p
 ·have e:conesF l p t=([],2):=by unfold conesF;rw[if_neg c2,if_pos c3]
  rw[e]
  rcases c3 with c3|c3
  all_goals
   repeat' (first|(simp (disch:=first|omega|assumption|exact bd (by with_unfolding_all rfl)|exact Or.inl rfl|exact Or.inl trivial|exact okL_map _ (fun _=>rfl) _|(simp only[VVlen]<;>omega)|fail) only[VV0,VV1,VV2,VV3,VV4,VV5,VV6,VV7,VV8,VV9,mkFnV,vargs,slotsL,opdsA,Nat.reduceEqDiff,Nat.reduceLT,Nat.reduceAdd,Nat.reduceBEq,Int.reduceAdd,Int.reduceSub,Int.reduceLT,Int.reduceLE,Int.reduceEq,Int.reduceNeg,↓reduceIte,reduceCtorEq,scL,scD,expand,List.replicate,c25])|apply gC_drawW|((first|apply gI_dec|apply gG_dec|apply gPG_dec|apply gI_var|apply gG_var|apply gPG_var)<;>intro _))
   refine callV_flat (hck _) ?_
   repeat' (first|(simp (disch:=first|omega|assumption|exact bd (by with_unfolding_all rfl)|exact Or.inl rfl|exact Or.inl trivial|exact okL_map _ (fun _=>rfl) _|(simp only[VVlen]<;>omega)|fail) only[VV0,VV1,VV2,VV3,VV4,VV5,VV6,VV7,VV8,VV9,mkFnV,vargs,slotsL,opdsA,Nat.reduceEqDiff,Nat.reduceLT,Nat.reduceAdd,Nat.reduceBEq,Int.reduceAdd,Int.reduceSub,Int.reduceLT,Int.reduceLE,Int.reduceEq,Int.reduceNeg,↓reduceIte,reduceCtorEq,scL,scD,expand,List.replicate])|apply gC_drawW|((first|apply gI_dec|apply gG_dec|apply gPG_dec|apply gI_var|apply gG_var|apply gPG_var)<;>intro _))
   all_goals first|exact weak_tupNil 3 1 rfl h0 rfl|exact absurd trivial ‹¬True›
 obtain ⟨q,rfl⟩:∃ q:Nat,p=q:=⟨p.toNat,by omega⟩
 have hm:(l.length:Int) % (q:Int)=((l.length % q:Nat):Int):=by simp
 have hd:(l.length:Int) / (q:Int)=((l.length / q:Nat):Int):=by simp
 by_cases c4:l.length=0∨l.length % q ≠ 0
 ·have e:conesF l q t=([],26):=by unfold conesF;rw[if_neg c2,if_neg c3,if_pos (by simpa using c4)]
  rw[e]
  rcases c4 with c4|c4
  ·repeat' (first|(simp (disch:=first|omega|assumption|exact bd (by with_unfolding_all rfl)|exact Or.inl rfl|exact Or.inl trivial|exact okL_map _ (fun _=>rfl) _|(simp only[VVlen]<;>omega)|fail) only[VV0,VV1,VV2,VV3,VV4,VV5,VV6,VV7,VV8,VV9,mkFnV,vargs,slotsL,opdsA,Nat.reduceEqDiff,Nat.reduceLT,Nat.reduceAdd,Nat.reduceBEq,Int.reduceAdd,Int.reduceSub,Int.reduceLT,Int.reduceLE,Int.reduceEq,Int.reduceNeg,↓reduceIte,reduceCtorEq,scL,scD,expand,List.replicate,c25,c4])|apply gC_drawW|((first|apply gI_dec|apply gG_dec|apply gPG_dec|apply gI_var|apply gG_var|apply gPG_var)<;>intro _))
   refine callV_flat (by have:=hck ⟨[],0,0⟩;rw[c4] at this;exact this) ?_
   repeat' (first|(simp (disch:=first|omega|assumption|exact bd (by with_unfolding_all rfl)|exact Or.inl rfl|exact Or.inl trivial|exact okL_map _ (fun _=>rfl) _|(simp only[VVlen]<;>omega)|fail) only[VV0,VV1,VV2,VV3,VV4,VV5,VV6,VV7,VV8,VV9,mkFnV,vargs,slotsL,opdsA,Nat.reduceEqDiff,Nat.reduceLT,Nat.reduceAdd,Nat.reduceBEq,Int.reduceAdd,Int.reduceSub,Int.reduceLT,Int.reduceLE,Int.reduceEq,Int.reduceNeg,↓reduceIte,reduceCtorEq,scL,scD,expand,List.replicate])|apply gC_drawW|((first|apply gI_dec|apply gG_dec|apply gPG_dec|apply gI_var|apply gG_var|apply gPG_var)<;>intro _))
   all_goals first|exact weak_tupNil 3 1 rfl h0 rfl|exact absurd trivial ‹¬True›
  ·repeat' (first|(simp (disch:=first|omega|assumption|exact bd (by with_unfolding_all rfl)|exact Or.inl rfl|exact Or.inl trivial|exact okL_map _ (fun _=>rfl) _|(simp only[VVlen]<;>omega)|fail) only[VV0,VV1,VV2,VV3,VV4,VV5,VV6,VV7,VV8,VV9,mkFnV,vargs,slotsL,opdsA,Nat.reduceEqDiff,Nat.reduceLT,Nat.reduceAdd,Nat.reduceBEq,Int.reduceAdd,Int.reduceSub,Int.reduceLT,Int.reduceLE,Int.reduceEq,Int.reduceNeg,↓reduceIte,reduceCtorEq,scL,scD,expand,List.replicate,c25])|apply gC_drawW|((first|apply gI_dec|apply gG_dec|apply gPG_dec|apply gI_var|apply gG_var|apply gPG_var)<;>intro _))
   refine callV_flat (hck _) ?_
   repeat' (first|(simp (disch:=first|omega|assumption|exact bd (by with_unfolding_all rfl)|exact Or.inl rfl|exact Or.inl trivial|exact okL_map _ (fun _=>rfl) _|(simp only[VVlen]<;>omega)|fail) only[VV0,VV1,VV2,VV3,VV4,VV5,VV6,VV7,VV8,VV9,mkFnV,vargs,slotsL,opdsA,Nat.reduceEqDiff,Nat.reduceLT,Nat.reduceAdd,Nat.reduceBEq,Int.reduceAdd,Int.reduceSub,Int.reduceLT,Int.reduceLE,Int.reduceEq,Int.reduceNeg,↓reduceIte,reduceCtorEq,scL,scD,expand,List.replicate,hm])|apply gC_drawW|((first|apply gI_dec|apply gG_dec|apply gPG_dec|apply gI_var|apply gG_var|apply gPG_var)<;>intro _))
   all_goals first|exact weak_tupNil 3 1 rfl h0 rfl|exact absurd trivial ‹¬True›|(exfalso;omega)
 have c4a:l.length ≠ 0:=fun h=>c4 (.inl h)
 have c4b:l.length % q=0:=Classical.not_not.1 fun h=>c4 (.inr h)
 have hq0:0<q:=by omega
 have hql:q≤l.length:=by
  have:=Nat.le_of_dvd (by omega) (Nat.dvd_of_mod_eq_zero c4b)
  exact this
 have hlq:(l.take q).length=q:=by rw[List.length_take];omega
 have hdm:l.length / q*q=l.length:=Nat.div_mul_cancel (Nat.dvd_of_mod_eq_zero c4b)
 have hd0:0<l.length / q:=Nat.div_pos hql hq0
 have hd1:l.length / q≤l.length:=Nat.div_le_self _ _
 have hc4:l.length≤4000:=by
  rcases Nat.lt_or_ge 4000 l.length with h|h
  ·rw[chk,if_pos h] at c2';cases c2'
  ·exact h
 have hw:=wind_1 w (n+2) t (kindS s) (l.take q) (l.length / q) (by omega) (by omega) (by omega) hd0
 rw[hlq] at hw
 have he:windP (l.take q) t (l.length / q)=windR (l.take q) t l.length:=by rw[wind_eq _ _ (by omega),hlq,hdm]
 rw[he] at hw
 have hs1:s ≠ 1∨l.length ≠ 0:= .inr c4a
 have e:conesF l q t=if windR (l.take q) t l.length=l then (l.take q,0) else ([],6):=by unfold conesF;rw[if_neg c2,if_neg c3,Int.toNat_natCast,if_neg c4]
 rw[e]
 repeat' (first|(simp (disch:=first|omega|assumption|exact bd (by with_unfolding_all rfl)|exact Or.inl rfl|exact Or.inl trivial|exact okL_map _ (fun _=>rfl) _|(simp only[VVlen]<;>omega)|fail) only[VV0,VV1,VV2,VV3,VV4,VV5,VV6,VV7,VV8,VV9,mkFnV,vargs,slotsL,opdsA,Nat.reduceEqDiff,Nat.reduceLT,Nat.reduceAdd,Nat.reduceBEq,Int.reduceAdd,Int.reduceSub,Int.reduceLT,Int.reduceLE,Int.reduceEq,Int.reduceNeg,↓reduceIte,reduceCtorEq,scL,scD,expand,List.replicate,c25])|apply gC_drawW|((first|apply gI_dec|apply gG_dec|apply gPG_dec|apply gI_var|apply gG_var|apply gPG_var)<;>intro _))
 refine callV_flat (hck _) ?_
 repeat' (first|(simp (disch:=first|omega|assumption|exact bd (by with_unfolding_all rfl)|exact Or.inl rfl|exact Or.inl trivial|exact okL_map _ (fun _=>rfl) _|(simp only[VVlen]<;>omega)|fail) only[VV0,VV1,VV2,VV3,VV4,VV5,VV6,VV7,VV8,VV9,mkFnV,vargs,slotsL,opdsA,Nat.reduceEqDiff,Nat.reduceLT,Nat.reduceAdd,Nat.reduceBEq,Int.reduceAdd,Int.reduceSub,Int.reduceLT,Int.reduceLE,Int.reduceEq,Int.reduceNeg,↓reduceIte,reduceCtorEq,scL,scD,expand,List.replicate,hm,hd,c4b,Nat.sub_zero])|apply gC_drawW|((first|apply gI_dec|apply gG_dec|apply gPG_dec|apply gI_var|apply gG_var|apply gPG_var)<;>intro _))
 refine call0_of ((fun st=>(of_p w (n+4) t).of hC rfl st rfl) _) ?_
 repeat' (first|(simp (disch:=first|omega|assumption|exact bd (by with_unfolding_all rfl)|exact Or.inl rfl|exact Or.inl trivial|exact okL_map _ (fun _=>rfl) _|(simp only[VVlen]<;>omega)|fail) only[VV0,VV1,VV2,VV3,VV4,VV5,VV6,VV7,VV8,VV9,mkFnV,vargs,slotsL,opdsA,Nat.reduceEqDiff,Nat.reduceLT,Nat.reduceAdd,Nat.reduceBEq,Int.reduceAdd,Int.reduceSub,Int.reduceLT,Int.reduceLE,Int.reduceEq,Int.reduceNeg,↓reduceIte,reduceCtorEq,scL,scD,expand,List.replicate,hm,hd,c4b,Nat.sub_zero])|apply gC_drawW|((first|apply gI_dec|apply gG_dec|apply gPG_dec|apply gI_var|apply gG_var|apply gPG_var)<;>intro _))
 refine call1_of (by rw[hC];exact hw) ?_
 repeat' (first|(simp (disch:=first|omega|assumption|exact bd (by with_unfolding_all rfl)|exact Or.inl rfl|exact Or.inl trivial|exact okL_map _ (fun _=>rfl) _|(simp only[VVlen]<;>omega)|fail) only[VV0,VV1,VV2,VV3,VV4,VV5,VV6,VV7,VV8,VV9,mkFnV,vargs,slotsL,opdsA,Nat.reduceEqDiff,Nat.reduceLT,Nat.reduceAdd,Nat.reduceBEq,Int.reduceAdd,Int.reduceSub,Int.reduceLT,Int.reduceLE,Int.reduceEq,Int.reduceNeg,↓reduceIte,reduceCtorEq,scL,scD,expand,List.replicate])|apply gC_drawW|((first|apply gI_dec|apply gG_dec|apply gPG_dec|apply gI_var|apply gG_var|apply gPG_var)<;>intro _))
 refine callV_flat (by rw[hC];exact equal_o w (n+4) _ 0 3 s false _ l rfl (by rw[windR_len];omega) (by omega)) ?_
 by_cases c5:windR (l.take q) t l.length=l
 ·rw[decide_eq_true c5,if_pos c5]
  repeat' (first|(simp (disch:=first|omega|assumption|exact bd (by with_unfolding_all rfl)|exact Or.inl rfl|exact Or.inl trivial|exact okL_map _ (fun _=>rfl) _|(simp only[VVlen]<;>omega)|fail) only[VV0,VV1,VV2,VV3,VV4,VV5,VV6,VV7,VV8,VV9,mkFnV,vargs,slotsL,opdsA,Nat.reduceEqDiff,Nat.reduceLT,Nat.reduceAdd,Nat.reduceBEq,Int.reduceAdd,Int.reduceSub,Int.reduceLT,Int.reduceLE,Int.reduceEq,Int.reduceNeg,↓reduceIte,reduceCtorEq,scL,scD,expand,List.replicate,Nat.sub_zero])|apply gC_drawW|((first|apply gI_dec|apply gG_dec|apply gPG_dec|apply gI_var|apply gG_var|apply gPG_var)<;>intro _))
  have hcl:=clone_p w (n+4) (kindS s) (l.take q) (by omega) (by omega)
  rw[hlq] at hcl
  refine callV_of (by rw[hC];exact hcl) rfl rfl rfl ?_
  repeat' (first|(simp (disch:=first|omega|assumption|exact bd (by with_unfolding_all rfl)|exact Or.inl rfl|exact Or.inl trivial|exact okL_map _ (fun _=>rfl) _|(simp only[VVlen]<;>omega)|fail) only[VV0,VV1,VV2,VV3,VV4,VV5,VV6,VV7,VV8,VV9,mkFnV,vargs,slotsL,opdsA,Nat.reduceEqDiff,Nat.reduceLT,Nat.reduceAdd,Nat.reduceBEq,Int.reduceAdd,Int.reduceSub,Int.reduceLT,Int.reduceLE,Int.reduceEq,Int.reduceNeg,↓reduceIte,reduceCtorEq,scL,scD,expand,List.replicate,vsh,shH,shO,fzSL,fzS])|apply gC_drawW|((first|apply gI_dec|apply gG_dec|apply gPG_dec|apply gI_var|apply gG_var|apply gPG_var)<;>intro _))
  simp only[resV,resS,hlq]
  exact weak_to [(1,0)] 1 h0 rfl rfl rfl rfl
 ·rw[decide_eq_false c5,if_neg c5]
  repeat' (first|(simp (disch:=first|omega|assumption|exact bd (by with_unfolding_all rfl)|exact Or.inl rfl|exact Or.inl trivial|exact okL_map _ (fun _=>rfl) _|(simp only[VVlen]<;>omega)|fail) only[VV0,VV1,VV2,VV3,VV4,VV5,VV6,VV7,VV8,VV9,mkFnV,vargs,slotsL,opdsA,Nat.reduceEqDiff,Nat.reduceLT,Nat.reduceAdd,Nat.reduceBEq,Int.reduceAdd,Int.reduceSub,Int.reduceLT,Int.reduceLE,Int.reduceEq,Int.reduceNeg,↓reduceIte,reduceCtorEq,scL,scD,expand,List.replicate])|apply gC_drawW|((first|apply gI_dec|apply gG_dec|apply gPG_dec|apply gI_var|apply gG_var|apply gPG_var)<;>intro _))
  exact weak_tupNil 3 1 rfl h0 rfl
end
end Go.Proofs.YtgglaaldlegckaaDoor
namespace Go.Proofs.YtgglaaldlegckaaDoor
open Go Go.Itp
set_option maxRecDepth 100000
set_option maxHeartbeats 1000000
set_option linter.unusedSimpArgs false
def okF (l:List Int) (t:Bool) (i:Nat):Bool:=decide ((conesF l ((i:Int)+1) t).2=0)
def fewestF (l:List Int) (t:Bool):List Int × Int:=
 if chk l ≠ 0 then ([],chk l) else match (List.range 64).find? (okF l t) with
  |some i=>((conesF l ((i:Int)+1) t).1,0)
  |none=>([],6)
theorem fewest_at {l:List Int} {t:Bool} {k:Nat} (h0:chk l=0) (hk:k<64) (ha:∀ i,i<k→okF l t i=false) (hb:okF l t k=true):fewestF l t=((conesF l ((k:Int)+1) t).1,0):=by
 have:(List.range 64).find? (okF l t)=some k:=by
  rw[List.find?_range_eq_some]
  exact ⟨hb,List.mem_range.2 hk,fun j hj=>by simp[ha j hj]⟩
 unfold fewestF
 rw[if_neg (by omega),this]
theorem fewest_none {l:List Int} {t:Bool} (h0:chk l=0) (ha:∀ i,i<64→okF l t i=false):fewestF l t=([],6):=by
 have:(List.range 64).find? (okF l t)=none:=by
  rw[List.find?_eq_none]
  intro x hx
  rw[ha x (List.mem_range.1 hx)]
  simp
 unfold fewestF
 rw[if_neg (by omega),this]
theorem ok_far {l:List Int} {t:Bool} {i:Nat} (h0:chk l=0) (h:l.length≤i) (hi:i<64):okF l t i=false:=by
 unfold okF
 rw[decide_eq_false_iff_not]
 unfold conesF
 rw[if_neg (by omega),if_neg (by omega),if_pos]
 ·decide
 ·rw[show ((i:Int)+1).toNat=i+1 by omega,Nat.mod_eq_of_lt (by omega)]
  omega
section
variable (w:World) (n:Nat)
theorem pfewest_p (s:Nat) (l:List Int) (t:Bool) (hl:l.length≤5000):VSpec (EN w (n+7)) 24 [.sl s l.length (l.map iD),.sc (.bool t)] (resV (fewestF l t)) (resS (fewestF l t)):=by
 refine vspec_g rfl rfl (fun _ _=>rfl) (Nat.le_of_ble_eq_true rfl) (oldVals w) (retOK_tgr (map_nil_iff rfl)) rfl fun C hC h0=>?_
 have hck:=fun st=>(check_p w (n+1) s l (by omega)).of hC rfl st rfl
 by_cases c2:chk l ≠ 0
 ·have e:fewestF l t=([],chk l):=if_pos c2
  rw[e]
  generalize chk l=x at c2 hck
  repeat' (first|(simp (disch:=first|omega|assumption|exact bd (by with_unfolding_all rfl)|exact Or.inl rfl|exact Or.inl trivial|exact okL_map _ (fun _=>rfl) _|(simp only[VVlen]<;>omega)|fail) only[VV0,VV1,VV2,VV3,VV4,VV5,VV6,VV7,VV8,VV9,mkFnV,vargs,slotsL,opdsA,Nat.reduceEqDiff,Nat.reduceLT,Nat.reduceAdd,Nat.reduceBEq,Int.reduceAdd,Int.reduceSub,Int.reduceLT,Int.reduceLE,Int.reduceEq,Int.reduceNeg,↓reduceIte,reduceCtorEq,scL,scD,expand,List.replicate,c24])|apply gC_drawW|((first|apply gI_dec|apply gG_dec|apply gPG_dec|apply gI_var|apply gG_var|apply gPG_var)<;>intro _))
  refine callV_flat (hck _) ?_
  repeat' (first|(simp (disch:=first|omega|assumption|exact bd (by with_unfolding_all rfl)|exact Or.inl rfl|exact Or.inl trivial|exact okL_map _ (fun _=>rfl) _|(simp only[VVlen]<;>omega)|fail) only[VV0,VV1,VV2,VV3,VV4,VV5,VV6,VV7,VV8,VV9,mkFnV,vargs,slotsL,opdsA,Nat.reduceEqDiff,Nat.reduceLT,Nat.reduceAdd,Nat.reduceBEq,Int.reduceAdd,Int.reduceSub,Int.reduceLT,Int.reduceLE,Int.reduceEq,Int.reduceNeg,↓reduceIte,reduceCtorEq,scL,scD,expand,List.replicate])|apply gC_drawW|((first|apply gI_dec|apply gG_dec|apply gPG_dec|apply gI_var|apply gG_var|apply gPG_var)<;>intro _))
  all_goals first|exact weak_tupNil 3 1 rfl h0 rfl|exact absurd trivial ‹¬True›|contradiction
 have c2':chk l=0:=Classical.not_not.1 c2
 rw[c2'] at hck
 repeat' (first|(simp (disch:=first|omega|assumption|exact bd (by with_unfolding_all rfl)|exact Or.inl rfl|exact Or.inl trivial|exact okL_map _ (fun _=>rfl) _|(simp only[VVlen]<;>omega)|fail) only[VV0,VV1,VV2,VV3,VV4,VV5,VV6,VV7,VV8,VV9,mkFnV,vargs,slotsL,opdsA,Nat.reduceEqDiff,Nat.reduceLT,Nat.reduceAdd,Nat.reduceBEq,Int.reduceAdd,Int.reduceSub,Int.reduceLT,Int.reduceLE,Int.reduceEq,Int.reduceNeg,↓reduceIte,reduceCtorEq,scL,scD,expand,List.replicate,c24])|apply gC_drawW|((first|apply gI_dec|apply gG_dec|apply gPG_dec|apply gI_var|apply gG_var|apply gPG_var)<;>intro _))
 refine callV_flat (hck _) ?_
 repeat' (first|(simp (disch:=first|omega|assumption|exact bd (by with_unfolding_all rfl)|exact Or.inl rfl|exact Or.inl trivial|exact okL_map _ (fun _=>rfl) _|(simp only[VVlen]<;>omega)|fail) only[VV0,VV1,VV2,VV3,VV4,VV5,VV6,VV7,VV8,VV9,mkFnV,vargs,slotsL,opdsA,Nat.reduceEqDiff,Nat.reduceLT,Nat.reduceAdd,Nat.reduceBEq,Int.reduceAdd,Int.reduceSub,Int.reduceLT,Int.reduceLE,Int.reduceEq,Int.reduceNeg,↓reduceIte,reduceCtorEq,scL,scD,expand,List.replicate])|apply gC_drawW|((first|apply gI_dec|apply gG_dec|apply gPG_dec|apply gI_var|apply gG_var|apply gPG_var)<;>intro _))
 refine g_while (fun m fr st=>∃ k:Nat,m=64 - k∧k≤64∧k≤l.length∧(∀ i,i<k→okF l t i=false)∧fr= [(0,.sl s l.length (l.map iD)),(1,.sc (.bool t)),(7,.sc (.int .i64 ((k:Int)+1)))]∧st=⟨[],0,0⟩) 64 ?_ ⟨_,_,.refl _ _,0,?_⟩ ?_
 ·rw[hC,callP_rounds];unfold many;omega
 ·exact ⟨rfl,by omega,by omega,(fun i h2=>absurd h2 (by omega)),rfl,rfl⟩
 ·rintro m fr st ⟨k,rfl,hk,hkl,ha,rfl,rfl⟩
  by_cases hlt:k<64∧k<l.length
  ·obtain ⟨h1,h2⟩:=hlt
   have hmin:((k:Int)+1≤min 64 (l.length:Int)):=by omega
   repeat' (first|(simp (disch:=first|omega|assumption|exact bd (by with_unfolding_all rfl)|exact Or.inl rfl|exact Or.inl trivial|exact okL_map _ (fun _=>rfl) _|(simp only[VVlen]<;>omega)|fail) only[VV0,VV1,VV2,VV3,VV4,VV5,VV6,VV7,VV8,VV9,mkFnV,vargs,slotsL,opdsA,Nat.reduceEqDiff,Nat.reduceLT,Nat.reduceAdd,Nat.reduceBEq,Int.reduceAdd,Int.reduceSub,Int.reduceLT,Int.reduceLE,Int.reduceEq,Int.reduceNeg,↓reduceIte,reduceCtorEq,scL,scD,expand,List.replicate,c24l0])|apply gC_drawW|((first|apply gI_dec|apply gG_dec|apply gPG_dec|apply gI_var|apply gG_var|apply gPG_var)<;>intro _))
   refine callV_of (by rw[hC];exact pcones_p w n s l ((k:Int)+1) t hl) rfl rfl rfl ?_
   cases hb:okF l t k
   ·have hb':¬ (conesF l ((k:Int)+1) t).2=0:=by simpa [okF] using hb
    repeat' (first|(simp (disch:=first|omega|assumption|exact bd (by with_unfolding_all rfl)|exact Or.inl rfl|exact Or.inl trivial|exact okL_map _ (fun _=>rfl) _|(simp only[VVlen]<;>omega)|fail) only[VV0,VV1,VV2,VV3,VV4,VV5,VV6,VV7,VV8,VV9,mkFnV,vargs,slotsL,opdsA,Nat.reduceEqDiff,Nat.reduceLT,Nat.reduceAdd,Nat.reduceBEq,Int.reduceAdd,Int.reduceSub,Int.reduceLT,Int.reduceLE,Int.reduceEq,Int.reduceNeg,↓reduceIte,reduceCtorEq,scL,scD,expand,List.replicate,vsh,vshL,shH,shO,fzSL,fzS])|apply gC_drawW|((first|apply gI_dec|apply gG_dec|apply gPG_dec|apply gI_var|apply gG_var|apply gPG_var)<;>intro _))
    exact ⟨_,_,_,by omega,weak_to [] 0 h0 rfl rfl rfl rfl,k+1,rfl,by omega,by omega,(fun i h2=>by rcases Nat.lt_succ_iff_lt_or_eq.1 h2 with h|h;exact ha i h;subst h;exact hb),rfl,rfl⟩
   ·have hb':(conesF l ((k:Int)+1) t).2=0:=by simpa [okF] using hb
    rw[fewest_at c2' h1 ha hb]
    repeat' (first|(simp (disch:=first|omega|assumption|exact bd (by with_unfolding_all rfl)|exact Or.inl rfl|exact Or.inl trivial|exact okL_map _ (fun _=>rfl) _|(simp only[VVlen]<;>omega)|fail) only[VV0,VV1,VV2,VV3,VV4,VV5,VV6,VV7,VV8,VV9,mkFnV,vargs,slotsL,opdsA,Nat.reduceEqDiff,Nat.reduceLT,Nat.reduceAdd,Nat.reduceBEq,Int.reduceAdd,Int.reduceSub,Int.reduceLT,Int.reduceLE,Int.reduceEq,Int.reduceNeg,↓reduceIte,reduceCtorEq,scL,scD,expand,List.replicate,vsh,vshL,shH,shO,fzSL,fzS])|apply gC_drawW|((first|apply gI_dec|apply gG_dec|apply gPG_dec|apply gI_var|apply gG_var|apply gPG_var)<;>intro _))
    exact .refl _ _
  ·rw[fewest_none c2' (fun i hi=>by
    by_cases h:i<k
    ·exact ha i h
    ·exact ok_far c2' (by omega) hi)]
   repeat' (first|(simp (disch:=first|omega|assumption|exact bd (by with_unfolding_all rfl)|exact Or.inl rfl|exact Or.inl trivial|exact okL_map _ (fun _=>rfl) _|(simp only[VVlen]<;>omega)|fail) only[VV0,VV1,VV2,VV3,VV4,VV5,VV6,VV7,VV8,VV9,mkFnV,vargs,slotsL,opdsA,Nat.reduceEqDiff,Nat.reduceLT,Nat.reduceAdd,Nat.reduceBEq,Int.reduceAdd,Int.reduceSub,Int.reduceLT,Int.reduceLE,Int.reduceEq,Int.reduceNeg,↓reduceIte,reduceCtorEq,scL,scD,expand,List.replicate,c24l0])|apply gC_drawW|((first|apply gI_dec|apply gG_dec|apply gPG_dec|apply gI_var|apply gG_var|apply gPG_var)<;>intro _))
   exact weak_tupNil 3 1 rfl h0 rfl
end
end Go.Proofs.YtgglaaldlegckaaDoor
namespace Go.Proofs.YtgglaaldlegckaaDoor
open Go Go.Itp
set_option maxRecDepth 100000
set_option maxHeartbeats 4000000
set_option linter.unusedSimpArgs false
set_option linter.unusedVariables false
theorem chk_rep (m:Nat):chk (List.replicate m 0)=if 4000<m then 4 else 0:=by
 unfold chk
 rw[List.length_replicate,if_pos (c:=(List.replicate m 0).all col=true) (by rw[List.all_eq_true];intro x hx;rw[List.eq_of_mem_replicate hx];decide)]
theorem made_map (z:Int) {M:List Int} (h:M=List.replicate z.toNat 0):List.replicate (Int.toNat z) (D.sc (.int .i64 0))=M.map iD:=by rw[h,List.map_replicate];rfl
theorem made_len (z:Int) {M:List Int} (h:M=List.replicate z.toNat 0):Int.toNat z=M.length:=by rw[h,List.length_replicate]
theorem aget_hd {α:Type} (i:Nat) (v:α) (r:List (Nat × α)):aget ((i,v)::r) i=some v:=by rw[aget_cons,if_pos rfl]
theorem snapL_one {H:VHp} {v v':V} (h:snapV H v=some v'):snapL H [v]=some [v']:=by simp only[snapL,h,Option.bind_some,Option.map_some]
theorem wd1:windF [] 1 false=([],2):=by decide
theorem wd2:windF (List.replicate 65 0) 1 false=([],2):=by unfold windF;rw[if_pos (.inr (by rw[List.length_replicate];decide))]
theorem wd3:windF [16] (-1) false=([],8):=by decide
theorem wd4:windF [1] 4001 false=([],2):=by decide
theorem wd5:windF [1,2] 2001 true=([],4):=by decide
theorem wd6:windF [1,2] 0 true=([],0):=by decide
theorem cn1:conesF [1,2,3] 2 false=([],26):=by decide
theorem cn2:conesF [] 1 false=([],26):=by decide
theorem cn3:conesF [1,2] 1 false=([],6):=by decide
theorem cn4:conesF [1,2] 65 false=([],2):=by decide
theorem fw1:fewestF [] true=([],6):=by decide+kernel
theorem un1:uncF [1] [1,2]=([],26):=by decide
theorem ex1:expF [(0,1)]=([],8):=by decide
theorem ex2:expF [(4000,0),(1,0)]=([],4):=by decide
theorem ex3:expF [(4000,0),(1,16)]=([],8):=by decide
theorem ex4:expF [(2,0),(1,0)]=([0,0,0],0):=by decide
theorem ps1:pparseF []=([],0):=rfl
theorem ps2:pparseF [50,120,49,32,49,120,49,53]=([1,1,15],0):=by rw[pparseK_eq];exact form_ok
abbrev z2:List Value:= [.int .i64 0,.int .i64 0]
abbrev ag (a b:Int):V:= .agg [.sc (.int .i64 a),.sc (.int .i64 b)]
theorem rwA (nx t:Nat) (a b:Int):mkRowV nx t 2 1 z2 [(0,2,ag a b)]=some (.ref nx 0 1 1,some (.row t 2 false false (runC [(a,b)])),[]):=rfl
theorem rwB (nx t:Nat) (a b c d:Int):mkRowV nx t 2 2 z2 [(0,2,ag a b),(2,2,ag c d)]=some (.ref nx 0 2 2,some (.row t 2 false false (runC [(a,b),(c,d)])),[]):=rfl
theorem rw1 (nx t:Nat) (a:Int):mkRowV nx t 1 1 [.int .i64 0] [(0,1,.sc (.int .i64 a))]=some (.ref nx 0 1 1,some (.row t 1 false false ([a].map iD)),[]):=rfl
theorem rw2 (nx t:Nat) (a b:Int):mkRowV nx t 1 2 [.int .i64 0] [(0,1,.sc (.int .i64 a)),(1,1,.sc (.int .i64 b))]=some (.ref nx 0 2 2,some (.row t 1 false false ([a,b].map iD)),[]):=rfl
theorem rw3 (nx t:Nat) (a b c:Int):mkRowV nx t 1 3 [.int .i64 0] [(0,1,.sc (.int .i64 a)),(1,1,.sc (.int .i64 b)),(2,1,.sc (.int .i64 c))]=some (.ref nx 0 3 3,some (.row t 1 false false ([a,b,c].map iD)),[]):=rfl
theorem snapR_one {H:VHp} {o t c:Nat} {g z:Bool} (p:Int × Int) (h:aget H o=some (.row t 2 g z (runC [p]))):snapL H [.ref o 0 1 c]=some [.sl 0 [p].length (runC [p])]:=by
 simp only[snapL,snapV,toD,h]
 rfl
theorem snapR_two {H:VHp} {o t c:Nat} {g z:Bool} (p q:Int × Int) (h:aget H o=some (.row t 2 g z (runC [p,q]))):snapL H [.ref o 0 2 c]=some [.sl 0 [p,q].length (runC [p,q])]:=by
 simp only[snapL,snapV,toD,h]
 rfl
def formsV:List D:=forms.map fun s=> .sc (.string ⟨s.toArray⟩)
theorem rw20 (nx t:Nat):mkRowV nx t 1 20 [.string ⟨#[]⟩] [(0,1,.sc (.string ⟨#[32]⟩)),(1,1,.sc (.string ⟨#[49]⟩)),(2,1,.sc (.string ⟨#[120]⟩)),(3,1,.sc (.string ⟨#[49,120]⟩)),(4,1,.sc (.string ⟨#[120,49]⟩)),(5,1,.sc (.string ⟨#[48,49,120,49]⟩)),(6,1,.sc (.string ⟨#[49,120,48,49]⟩)),(7,1,.sc (.string ⟨#[49,120,49,54]⟩)),(8,1,.sc (.string ⟨#[48,120,49]⟩)),(9,1,.sc (.string ⟨#[52,48,48,49,120,49]⟩)),(10,1,.sc (.string ⟨#[49,120,49,32,49,120,49]⟩)),(11,1,.sc (.string ⟨#[49,120,49,32,32,49,120,50]⟩)),(12,1,.sc (.string ⟨#[49,120,49,32]⟩)),(13,1,.sc (.string ⟨#[32,49,120,49]⟩)),(14,1,.sc (.string ⟨#[45,49,120,49]⟩)),(15,1,.sc (.string ⟨#[43,49,120,49]⟩)),(16,1,.sc (.string ⟨#[49,120,45,49]⟩)),(17,1,.sc (.string ⟨#[49,121,49]⟩)),(18,1,.sc (.string ⟨#[52,48,48,48,120,49,32,49,120,50]⟩)),(19,1,.sc (.string ⟨#[49,120,49,120,49]⟩))]=some (.ref nx 0 20 20,some (.row t 1 false false formsV),[]):=rfl
theorem formsV_ld (k:Nat) (hk:k<20):dload formsV k none=some (.sc (.string ⟨forms[k]!.toArray⟩)):=by
 unfold formsV
 rw[dload_map _ _ _ hk]
 rfl
theorem forms_len (k:Nat) (hk:k<20):forms[k]!.length≤100000:=by
 have:∀ k:Fin 20,forms[k.1]!.length≤100000:=by decide
 exact this ⟨k,hk⟩
theorem forms_12 (k:Nat) (hk:k<20):(pparseF forms[k]!).2=12:=by
 rw[pparseK_eq]
 have h:=List.all_eq_true.1 forms_bad forms[k]! (by rw[getElem!_pos forms k hk];exact List.getElem_mem _)
 simpa using h
theorem snapF {H:VHp} {o t c:Nat} {g z:Bool} (h:aget H o=some (.row t 1 g z formsV)):snapV H (.ref o 0 20 c)=some (.sl 0 20 formsV):=by
 simp only[snapV,toD,h]
 rfl
theorem snapL_3 {H:VHp} {v v':V} (a b:Value) (h:snapV H v=some v'):snapL H [v,.sc a,.sc b]=some [v',.sc a,.sc b]:=by simp only[snapL,h,Option.bind_some,Option.map_some];rfl
theorem snapL_2 {H:VHp} {v v' u u':V} (h:snapV H v=some v') (h':snapV H u=some u'):snapL H [v,u]=some [v',u']:=by simp only[snapL,h,h',Option.bind_some,Option.map_some]
theorem uncross_long (w:World) (n s s':Nat) (a b:List Int) (ha:a.length≤140737488351232) (hb:b.length≤140737488351232) (h0:chk a=0) (h1:chk b=0) (h2:a.length=b.length∨a.length=b.length+1) (h3:4000<a.length+b.length):
  VSpec (EN w (n+6)) 19 [.sl s a.length (a.map iD),.sl s' b.length (b.map iD)] (.tup [.sc (.slice none 0 0),.sc (.int .i64 4)]) ⟨[],0,0⟩:=by
 refine vspec_flat rfl rfl (fun _ _=>rfl) (Nat.le_of_ble_eq_true rfl) (oldVals w) rfl fun C hC hn=>?_
 repeat' (first|(simp (disch:=first|omega|assumption|exact bd (by with_unfolding_all rfl)|exact Or.inl rfl|exact Or.inl trivial|exact okL_map _ (fun _=>rfl) _|(simp only[VVlen]<;>omega)|fail) only[VV0,VV1,VV2,VV3,VV4,VV5,VV6,VV7,VV8,VV9,mkFnV,vargs,slotsL,opdsA,Nat.reduceEqDiff,Nat.reduceLT,Nat.reduceAdd,Nat.reduceBEq,Int.reduceAdd,Int.reduceSub,Int.reduceLT,Int.reduceLE,Int.reduceEq,Int.reduceNeg,↓reduceIte,reduceCtorEq,scL,scD,expand,List.replicate,c19])|apply gC_drawW|((first|apply gI_dec|apply gG_dec|apply gPG_dec|apply gI_var|apply gG_var|apply gPG_var)<;>intro _))
 refine callV_flat ((check_p w n s a ha).of hC rfl _ rfl) ?_
 rw[h0]
 repeat' (first|(simp (disch:=first|omega|assumption|exact bd (by with_unfolding_all rfl)|exact Or.inl rfl|exact Or.inl trivial|exact okL_map _ (fun _=>rfl) _|(simp only[VVlen]<;>omega)|fail) only[VV0,VV1,VV2,VV3,VV4,VV5,VV6,VV7,VV8,VV9,mkFnV,vargs,slotsL,opdsA,Nat.reduceEqDiff,Nat.reduceLT,Nat.reduceAdd,Nat.reduceBEq,Int.reduceAdd,Int.reduceSub,Int.reduceLT,Int.reduceLE,Int.reduceEq,Int.reduceNeg,↓reduceIte,reduceCtorEq,scL,scD,expand,List.replicate])|apply gC_drawW|((first|apply gI_dec|apply gG_dec|apply gPG_dec|apply gI_var|apply gG_var|apply gPG_var)<;>intro _))
 refine callV_flat ((check_p w n s' b hb).of hC rfl _ rfl) ?_
 rw[h1]
 repeat' (first|(simp (disch:=first|omega|assumption|exact bd (by with_unfolding_all rfl)|exact Or.inl rfl|exact Or.inl trivial|exact okL_map _ (fun _=>rfl) _|(simp only[VVlen]<;>omega)|fail) only[VV0,VV1,VV2,VV3,VV4,VV5,VV6,VV7,VV8,VV9,mkFnV,vargs,slotsL,opdsA,Nat.reduceEqDiff,Nat.reduceLT,Nat.reduceAdd,Nat.reduceBEq,Int.reduceAdd,Int.reduceSub,Int.reduceLT,Int.reduceLE,Int.reduceEq,Int.reduceNeg,↓reduceIte,reduceCtorEq,scL,scD,expand,List.replicate])|apply gC_drawW|((first|apply gI_dec|apply gG_dec|apply gPG_dec|apply gI_var|apply gG_var|apply gPG_var)<;>intro _))
 all_goals try (exfalso;omega)
 all_goals exact weak_flat rfl hn rfl
end Go.Proofs.YtgglaaldlegckaaDoor
namespace Go.Proofs.YtgglaaldlegckaaDoor
open Go Go.Itp
set_option maxRecDepth 100000
set_option maxHeartbeats 4000000
set_option linter.unusedSimpArgs false
set_option linter.unusedVariables false
theorem names_g (w:World) (hes:(errO Tryd.prog w "strconv.ErrSyntax").isSome=true) (her:(errO Tryd.prog w "strconv.ErrRange").isSome=true) {C:Ctx} (hC:C.E=EN w 8) (h0:C.w0.nx=0):
  gC C c7.code [] (vargs 0 []) ⟨[],0,0⟩ (RetV C c7.res (.sc (.bool true)) ⟨[],0,0⟩):=by
 have f2:∀ (H:VHp),frozA [] H=H:=frozA_none
 repeat' (first|(simp (disch:=first|omega|assumption|exact bd (by with_unfolding_all rfl)|exact Or.inl rfl|exact Or.inl trivial|exact okL_map _ (fun _=>rfl) _|(simp only[VVlen]<;>omega)|fail) only[VV0,VV1,VV2,VV3,VV4,VV5,VV6,VV7,VV8,VV9,mkFnV,vargs,slotsL,opdsA,Nat.reduceEqDiff,Nat.reduceLT,Nat.reduceAdd,Nat.reduceBEq,Int.reduceAdd,Int.reduceSub,Int.reduceLT,Int.reduceLE,Int.reduceEq,Int.reduceNeg,↓reduceIte,reduceCtorEq,scL,scD,expand,List.replicate,c7])|apply gC_drawW|((first|apply gI_dec|apply gG_dec|apply gPG_dec|apply gI_var|apply gG_var|apply gPG_var)<;>intro _))
 refine callV_flat (by rw[hC];exact (VSpec.arg (check_p w 3 3 [] (by simp)) (nil_arg fun _ _ h=>h)).flat rfl rfl) ?_
 rw[show chk []=0 from by decide]
 repeat' (first|(simp (disch:=first|omega|assumption|exact bd (by with_unfolding_all rfl)|exact Or.inl rfl|exact Or.inl trivial|exact okL_map _ (fun _=>rfl) _|(simp only[VVlen]<;>omega)|fail) only[VV0,VV1,VV2,VV3,VV4,VV5,VV6,VV7,VV8,VV9,mkFnV,vargs,slotsL,opdsA,Nat.reduceEqDiff,Nat.reduceLT,Nat.reduceAdd,Nat.reduceBEq,Int.reduceAdd,Int.reduceSub,Int.reduceLT,Int.reduceLE,Int.reduceEq,Int.reduceNeg,↓reduceIte,reduceCtorEq,scL,scD,expand,List.replicate])|apply gC_drawW|((first|apply gI_dec|apply gG_dec|apply gPG_dec|apply gI_var|apply gG_var|apply gPG_var)<;>intro _))
 refine callV_flat (by rw[hC];exact (check_p w 3 0 [16] (by simp)).flat rfl rfl) ?_
 rw[show chk [16]=8 from by decide]
 repeat' (first|(simp (disch:=first|omega|assumption|exact bd (by with_unfolding_all rfl)|exact Or.inl rfl|exact Or.inl trivial|exact okL_map _ (fun _=>rfl) _|(simp only[VVlen]<;>omega)|fail) only[VV0,VV1,VV2,VV3,VV4,VV5,VV6,VV7,VV8,VV9,mkFnV,vargs,slotsL,opdsA,Nat.reduceEqDiff,Nat.reduceLT,Nat.reduceAdd,Nat.reduceBEq,Int.reduceAdd,Int.reduceSub,Int.reduceLT,Int.reduceLE,Int.reduceEq,Int.reduceNeg,↓reduceIte,reduceCtorEq,scL,scD,expand,List.replicate])|apply gC_drawW|((first|apply gI_dec|apply gG_dec|apply gPG_dec|apply gI_var|apply gG_var|apply gPG_var)<;>intro _))
 refine callV_flat (by rw[hC];exact (check_p w 3 0 [-1] (by simp)).flat rfl rfl) ?_
 rw[show chk [-1]=8 from by decide]
 repeat' (first|(simp (disch:=first|omega|assumption|exact bd (by with_unfolding_all rfl)|exact Or.inl rfl|exact Or.inl trivial|exact okL_map _ (fun _=>rfl) _|(simp only[VVlen]<;>omega)|fail) only[VV0,VV1,VV2,VV3,VV4,VV5,VV6,VV7,VV8,VV9,mkFnV,vargs,slotsL,opdsA,Nat.reduceEqDiff,Nat.reduceLT,Nat.reduceAdd,Nat.reduceBEq,Int.reduceAdd,Int.reduceSub,Int.reduceLT,Int.reduceLE,Int.reduceEq,Int.reduceNeg,↓reduceIte,reduceCtorEq,scL,scD,expand,List.replicate])|apply gC_drawW|((first|apply gI_dec|apply gG_dec|apply gPG_dec|apply gI_var|apply gG_var|apply gPG_var)<;>intro _))
 obtain ⟨M1,m1⟩:∃ M:List Int,M=List.replicate (Int.toNat 4001) 0:=⟨_,rfl⟩
 rw[made_map 4001 m1,made_len 4001 m1]
 have q1:=check_p w 3 0 M1 (by rw[m1,List.length_replicate];decide)
 rw[show chk M1=4 from by rw[m1,chk_rep,if_pos (by decide)]] at q1
 refine callV_flat (by rw[hC];exact q1.flat rfl (snapL_one (snap_ref (aget_hd _ _ _)))) ?_
 repeat' (first|(simp (disch:=first|omega|assumption|exact bd (by with_unfolding_all rfl)|exact Or.inl rfl|exact Or.inl trivial|exact okL_map _ (fun _=>rfl) _|(simp only[VVlen]<;>omega)|fail) only[VV0,VV1,VV2,VV3,VV4,VV5,VV6,VV7,VV8,VV9,mkFnV,vargs,slotsL,opdsA,Nat.reduceEqDiff,Nat.reduceLT,Nat.reduceAdd,Nat.reduceBEq,Int.reduceAdd,Int.reduceSub,Int.reduceLT,Int.reduceLE,Int.reduceEq,Int.reduceNeg,↓reduceIte,reduceCtorEq,scL,scD,expand,List.replicate])|apply gC_drawW|((first|apply gI_dec|apply gG_dec|apply gPG_dec|apply gI_var|apply gG_var|apply gPG_var)<;>intro _))
 obtain ⟨M2,m2⟩:∃ M:List Int,M=List.replicate (Int.toNat 4000) 0:=⟨_,rfl⟩
 rw[made_map 4000 m2,made_len 4000 m2]
 have q1:=check_p w 3 0 M2 (by rw[m2,List.length_replicate];decide)
 rw[show chk M2=0 from by rw[m2,chk_rep,if_neg (by decide)]] at q1
 refine callV_flat (by rw[hC];exact q1.flat rfl (snapL_one (snap_ref (aget_hd _ _ _)))) ?_
 clear q1
 repeat' (first|(simp (disch:=first|omega|assumption|exact bd (by with_unfolding_all rfl)|exact Or.inl rfl|exact Or.inl trivial|exact okL_map _ (fun _=>rfl) _|(simp only[VVlen]<;>omega)|fail) only[VV0,VV1,VV2,VV3,VV4,VV5,VV6,VV7,VV8,VV9,mkFnV,vargs,slotsL,opdsA,Nat.reduceEqDiff,Nat.reduceLT,Nat.reduceAdd,Nat.reduceBEq,Int.reduceAdd,Int.reduceSub,Int.reduceLT,Int.reduceLE,Int.reduceEq,Int.reduceNeg,↓reduceIte,reduceCtorEq,scL,scD,expand,List.replicate,rwA,rwB,rw1,rw2,rw3])|apply gC_drawW|((first|apply gI_dec|apply gG_dec|apply gPG_dec|apply gI_var|apply gG_var|apply gPG_var)<;>intro _))
 have q1:=expand_p w 4 0 [(0,1)] (by decide)
 rw[ex1] at q1
 refine callV_of (by rw[hC];exact q1) (snapR_one (0,1) (aget_hd _ _ _)) rfl rfl ?_
 clear q1
 repeat' (first|(simp (disch:=first|omega|assumption|exact bd (by with_unfolding_all rfl)|exact Or.inl rfl|exact Or.inl trivial|exact okL_map _ (fun _=>rfl) _|(simp only[VVlen]<;>omega)|fail) only[VV0,VV1,VV2,VV3,VV4,VV5,VV6,VV7,VV8,VV9,mkFnV,vargs,slotsL,opdsA,Nat.reduceEqDiff,Nat.reduceLT,Nat.reduceAdd,Nat.reduceBEq,Int.reduceAdd,Int.reduceSub,Int.reduceLT,Int.reduceLE,Int.reduceEq,Int.reduceNeg,↓reduceIte,reduceCtorEq,scL,scD,expand,List.replicate,vsh,vshL,shH,shO,fzSL,fzS,f2,rwA,rwB,rw1,rw2,rw3])|apply gC_drawW|((first|apply gI_dec|apply gG_dec|apply gPG_dec|apply gI_var|apply gG_var|apply gPG_var)<;>intro _))
 have q1:=expand_p w 4 0 [(4000,0),(1,0)] (by decide)
 rw[ex2] at q1
 refine callV_of (by rw[hC];exact q1) (snapR_two (4000,0) (1,0) (aget_hd _ _ _)) rfl rfl ?_
 clear q1
 repeat' (first|(simp (disch:=first|omega|assumption|exact bd (by with_unfolding_all rfl)|exact Or.inl rfl|exact Or.inl trivial|exact okL_map _ (fun _=>rfl) _|(simp only[VVlen]<;>omega)|fail) only[VV0,VV1,VV2,VV3,VV4,VV5,VV6,VV7,VV8,VV9,mkFnV,vargs,slotsL,opdsA,Nat.reduceEqDiff,Nat.reduceLT,Nat.reduceAdd,Nat.reduceBEq,Int.reduceAdd,Int.reduceSub,Int.reduceLT,Int.reduceLE,Int.reduceEq,Int.reduceNeg,↓reduceIte,reduceCtorEq,scL,scD,expand,List.replicate,vsh,vshL,shH,shO,fzSL,fzS,f2,rwA,rwB,rw1,rw2,rw3])|apply gC_drawW|((first|apply gI_dec|apply gG_dec|apply gPG_dec|apply gI_var|apply gG_var|apply gPG_var)<;>intro _))
 have q1:=expand_p w 4 0 [(4000,0),(1,16)] (by decide)
 rw[ex3] at q1
 refine callV_of (by rw[hC];exact q1) (snapR_two (4000,0) (1,16) (aget_hd _ _ _)) rfl rfl ?_
 clear q1
 repeat' (first|(simp (disch:=first|omega|assumption|exact bd (by with_unfolding_all rfl)|exact Or.inl rfl|exact Or.inl trivial|exact okL_map _ (fun _=>rfl) _|(simp only[VVlen]<;>omega)|fail) only[VV0,VV1,VV2,VV3,VV4,VV5,VV6,VV7,VV8,VV9,mkFnV,vargs,slotsL,opdsA,Nat.reduceEqDiff,Nat.reduceLT,Nat.reduceAdd,Nat.reduceBEq,Int.reduceAdd,Int.reduceSub,Int.reduceLT,Int.reduceLE,Int.reduceEq,Int.reduceNeg,↓reduceIte,reduceCtorEq,scL,scD,expand,List.replicate,vsh,vshL,shH,shO,fzSL,fzS,f2,rwA,rwB,rw1,rw2,rw3])|apply gC_drawW|((first|apply gI_dec|apply gG_dec|apply gPG_dec|apply gI_var|apply gG_var|apply gPG_var)<;>intro _))
 have q1:=expand_p w 4 0 [(2,0),(1,0)] (by decide)
 rw[ex4] at q1
 refine callV_of (by rw[hC];exact q1) (snapR_two (2,0) (1,0) (aget_hd _ _ _)) rfl rfl ?_
 clear q1
 repeat' (first|(simp (disch:=first|omega|assumption|exact bd (by with_unfolding_all rfl)|exact Or.inl rfl|exact Or.inl trivial|exact okL_map _ (fun _=>rfl) _|(simp only[VVlen]<;>omega)|fail) only[VV0,VV1,VV2,VV3,VV4,VV5,VV6,VV7,VV8,VV9,mkFnV,vargs,slotsL,opdsA,Nat.reduceEqDiff,Nat.reduceLT,Nat.reduceAdd,Nat.reduceBEq,Int.reduceAdd,Int.reduceSub,Int.reduceLT,Int.reduceLE,Int.reduceEq,Int.reduceNeg,↓reduceIte,reduceCtorEq,scL,scD,expand,List.replicate,vsh,vshL,shH,shO,fzSL,fzS,f2,rwA,rwB,rw1,rw2,rw3,rw20])|apply gC_drawW|((first|apply gI_dec|apply gG_dec|apply gPG_dec|apply gI_var|apply gG_var|apply gPG_var)<;>intro _))
 have hfr:∀ q:Int,(vargs 0 []:VFr)= []:=fun _=>rfl
 refine g_while (fun m fr st=>∃ k:Nat,m=20 - k∧k≤20∧fr= [(1,.sc (.bool true)),(3,.sc (.int .i64 8)),(5,.sc (.int .i64 4)),(7,.sc (.int .i64 8)),(8,slI [0,0,0]),(9,.sc (.int .i64 0)),(10,.sl 0 20 formsV),(11,.sc (.int .i64 k))]∧st=⟨[],0,0⟩) 20 ?_ ⟨_,_,(weak_snap (t:=10) rfl (snapF (aget_hd _ _ _)) rfl).trans (weak_ren [] 0 (by omega) rfl),0,rfl,by omega,rfl,rfl⟩ ?_
 ·rw[hC,callP_rounds];unfold many;omega
 ·rintro m fr st ⟨k,rfl,hk,rfl,rfl⟩
  by_cases hlt:k<20
  ·have g1:=formsV_ld k hlt
   have q1:=parse_p w 0 forms[k]! (forms_len k hlt) hes her
   have g2:=forms_12 k hlt
   rw[show pparseF forms[k]! =((pparseF forms[k]!).1,12) from Prod.ext rfl g2] at q1
   repeat' (first|(simp (disch:=first|omega|assumption|exact bd (by with_unfolding_all rfl)|exact Or.inl rfl|exact Or.inl trivial|exact okL_map _ (fun _=>rfl) _|(simp only[VVlen]<;>omega)|fail) only[VV0,VV1,VV2,VV3,VV4,VV5,VV6,VV7,VV8,VV9,mkFnV,vargs,slotsL,opdsA,Nat.reduceEqDiff,Nat.reduceLT,Nat.reduceAdd,Nat.reduceBEq,Int.reduceAdd,Int.reduceSub,Int.reduceLT,Int.reduceLE,Int.reduceEq,Int.reduceNeg,↓reduceIte,reduceCtorEq,scL,scD,expand,List.replicate,c7l0,g1])|apply gC_drawW|((first|apply gI_dec|apply gG_dec|apply gPG_dec|apply gI_var|apply gG_var|apply gPG_var)<;>intro _))
   refine callV_of (by rw[hC];exact q1) rfl rfl rfl ?_
   repeat' (first|(simp (disch:=first|omega|assumption|exact bd (by with_unfolding_all rfl)|exact Or.inl rfl|exact Or.inl trivial|exact okL_map _ (fun _=>rfl) _|(simp only[VVlen]<;>omega)|fail) only[VV0,VV1,VV2,VV3,VV4,VV5,VV6,VV7,VV8,VV9,mkFnV,vargs,slotsL,opdsA,Nat.reduceEqDiff,Nat.reduceLT,Nat.reduceAdd,Nat.reduceBEq,Int.reduceAdd,Int.reduceSub,Int.reduceLT,Int.reduceLE,Int.reduceEq,Int.reduceNeg,↓reduceIte,reduceCtorEq,scL,scD,expand,List.replicate,vsh,vshL,shH,shO,fzSL,fzS,f2])|apply gC_drawW|((first|apply gI_dec|apply gG_dec|apply gPG_dec|apply gI_var|apply gG_var|apply gPG_var)<;>intro _))
   exact ⟨_,_,_,by omega,.refl _ _,k+1,rfl,by omega,rfl,rfl⟩
  ·repeat' (first|(simp (disch:=first|omega|assumption|exact bd (by with_unfolding_all rfl)|exact Or.inl rfl|exact Or.inl trivial|exact okL_map _ (fun _=>rfl) _|(simp only[VVlen]<;>omega)|fail) only[VV0,VV1,VV2,VV3,VV4,VV5,VV6,VV7,VV8,VV9,mkFnV,vargs,slotsL,opdsA,Nat.reduceEqDiff,Nat.reduceLT,Nat.reduceAdd,Nat.reduceBEq,Int.reduceAdd,Int.reduceSub,Int.reduceLT,Int.reduceLE,Int.reduceEq,Int.reduceNeg,↓reduceIte,reduceCtorEq,scL,scD,expand,List.replicate,c7l0])|apply gC_drawW|((first|apply gI_dec|apply gG_dec|apply gPG_dec|apply gI_var|apply gG_var|apply gPG_var)<;>intro _))
   have q1:=parse_p w 0 [] (by decide) hes her
   rw[ps1] at q1
   refine callV_of (by rw[hC];exact q1) rfl rfl rfl ?_
   repeat' (first|(simp (disch:=first|omega|assumption|exact bd (by with_unfolding_all rfl)|exact Or.inl rfl|exact Or.inl trivial|exact okL_map _ (fun _=>rfl) _|(simp only[VVlen]<;>omega)|fail) only[VV0,VV1,VV2,VV3,VV4,VV5,VV6,VV7,VV8,VV9,mkFnV,vargs,slotsL,opdsA,Nat.reduceEqDiff,Nat.reduceLT,Nat.reduceAdd,Nat.reduceBEq,Int.reduceAdd,Int.reduceSub,Int.reduceLT,Int.reduceLE,Int.reduceEq,Int.reduceNeg,↓reduceIte,reduceCtorEq,scL,scD,expand,List.replicate,vsh,vshL,shH,shO,fzSL,fzS,f2])|apply gC_drawW|((first|apply gI_dec|apply gG_dec|apply gPG_dec|apply gI_var|apply gG_var|apply gPG_var)<;>intro _))
   have q1:=parse_p w 0 [50,120,49,32,49,120,49,53] (by decide) hes her
   rw[ps2] at q1
   refine callV_of (by rw[hC];exact q1) rfl rfl rfl ?_
   repeat' (first|(simp (disch:=first|omega|assumption|exact bd (by with_unfolding_all rfl)|exact Or.inl rfl|exact Or.inl trivial|exact okL_map _ (fun _=>rfl) _|(simp only[VVlen]<;>omega)|fail) only[VV0,VV1,VV2,VV3,VV4,VV5,VV6,VV7,VV8,VV9,mkFnV,vargs,slotsL,opdsA,Nat.reduceEqDiff,Nat.reduceLT,Nat.reduceAdd,Nat.reduceBEq,Int.reduceAdd,Int.reduceSub,Int.reduceLT,Int.reduceLE,Int.reduceEq,Int.reduceNeg,↓reduceIte,reduceCtorEq,scL,scD,expand,List.replicate,vsh,vshL,shH,shO,fzSL,fzS,f2])|apply gC_drawW|((first|apply gI_dec|apply gG_dec|apply gPG_dec|apply gI_var|apply gG_var|apply gPG_var)<;>intro _))
   have q1:=pwind_p w 2 3 [] 1 false (by decide)
   rw[wd1] at q1
   refine callV_of (by rw[hC];exact VSpec.arg q1 (nil_arg fun _ _ h=>h)) rfl rfl rfl ?_
   repeat' (first|(simp (disch:=first|omega|assumption|exact bd (by with_unfolding_all rfl)|exact Or.inl rfl|exact Or.inl trivial|exact okL_map _ (fun _=>rfl) _|(simp only[VVlen]<;>omega)|fail) only[VV0,VV1,VV2,VV3,VV4,VV5,VV6,VV7,VV8,VV9,mkFnV,vargs,slotsL,opdsA,Nat.reduceEqDiff,Nat.reduceLT,Nat.reduceAdd,Nat.reduceBEq,Int.reduceAdd,Int.reduceSub,Int.reduceLT,Int.reduceLE,Int.reduceEq,Int.reduceNeg,↓reduceIte,reduceCtorEq,scL,scD,expand,List.replicate,vsh,vshL,shH,shO,fzSL,fzS,f2])|apply gC_drawW|((first|apply gI_dec|apply gG_dec|apply gPG_dec|apply gI_var|apply gG_var|apply gPG_var)<;>intro _))
   obtain ⟨M3,m3⟩:∃ M:List Int,M=List.replicate (Int.toNat 65) 0:=⟨_,rfl⟩
   rw[made_map 65 m3,made_len 65 m3]
   have q1:=pwind_p w 2 0 M3 1 false (by rw[m3,List.length_replicate];decide)
   rw[show windF M3 1 false=([],2) from by rw[m3];exact wd2] at q1
   refine callV_of (by rw[hC];exact q1) (snapL_3 _ _ (snap_ref (aget_hd _ _ _))) rfl rfl ?_
   clear q1
   repeat' (first|(simp (disch:=first|omega|assumption|exact bd (by with_unfolding_all rfl)|exact Or.inl rfl|exact Or.inl trivial|exact okL_map _ (fun _=>rfl) _|(simp only[VVlen]<;>omega)|fail) only[VV0,VV1,VV2,VV3,VV4,VV5,VV6,VV7,VV8,VV9,mkFnV,vargs,slotsL,opdsA,Nat.reduceEqDiff,Nat.reduceLT,Nat.reduceAdd,Nat.reduceBEq,Int.reduceAdd,Int.reduceSub,Int.reduceLT,Int.reduceLE,Int.reduceEq,Int.reduceNeg,↓reduceIte,reduceCtorEq,scL,scD,expand,List.replicate,vsh,vshL,shH,shO,fzSL,fzS,f2,rwA,rwB,rw1,rw2,rw3])|apply gC_drawW|((first|apply gI_dec|apply gG_dec|apply gPG_dec|apply gI_var|apply gG_var|apply gPG_var)<;>intro _))
   have q1:=pwind_p w 2 0 [16] (-1) false (by decide)
   rw[wd3] at q1
   refine callV_of (by rw[hC];exact q1) rfl rfl rfl ?_
   clear q1
   repeat' (first|(simp (disch:=first|omega|assumption|exact bd (by with_unfolding_all rfl)|exact Or.inl rfl|exact Or.inl trivial|exact okL_map _ (fun _=>rfl) _|(simp only[VVlen]<;>omega)|fail) only[VV0,VV1,VV2,VV3,VV4,VV5,VV6,VV7,VV8,VV9,mkFnV,vargs,slotsL,opdsA,Nat.reduceEqDiff,Nat.reduceLT,Nat.reduceAdd,Nat.reduceBEq,Int.reduceAdd,Int.reduceSub,Int.reduceLT,Int.reduceLE,Int.reduceEq,Int.reduceNeg,↓reduceIte,reduceCtorEq,scL,scD,expand,List.replicate,vsh,vshL,shH,shO,fzSL,fzS,f2,rwA,rwB,rw1,rw2,rw3])|apply gC_drawW|((first|apply gI_dec|apply gG_dec|apply gPG_dec|apply gI_var|apply gG_var|apply gPG_var)<;>intro _))
   have q1:=pwind_p w 2 0 [1] 4001 false (by decide)
   rw[wd4] at q1
   refine callV_of (by rw[hC];exact q1) rfl rfl rfl ?_
   clear q1
   repeat' (first|(simp (disch:=first|omega|assumption|exact bd (by with_unfolding_all rfl)|exact Or.inl rfl|exact Or.inl trivial|exact okL_map _ (fun _=>rfl) _|(simp only[VVlen]<;>omega)|fail) only[VV0,VV1,VV2,VV3,VV4,VV5,VV6,VV7,VV8,VV9,mkFnV,vargs,slotsL,opdsA,Nat.reduceEqDiff,Nat.reduceLT,Nat.reduceAdd,Nat.reduceBEq,Int.reduceAdd,Int.reduceSub,Int.reduceLT,Int.reduceLE,Int.reduceEq,Int.reduceNeg,↓reduceIte,reduceCtorEq,scL,scD,expand,List.replicate,vsh,vshL,shH,shO,fzSL,fzS,f2,rwA,rwB,rw1,rw2,rw3])|apply gC_drawW|((first|apply gI_dec|apply gG_dec|apply gPG_dec|apply gI_var|apply gG_var|apply gPG_var)<;>intro _))
   have q1:=pwind_p w 2 0 [1,2] 2001 true (by decide)
   rw[wd5] at q1
   refine callV_of (by rw[hC];exact q1) rfl rfl rfl ?_
   clear q1
   repeat' (first|(simp (disch:=first|omega|assumption|exact bd (by with_unfolding_all rfl)|exact Or.inl rfl|exact Or.inl trivial|exact okL_map _ (fun _=>rfl) _|(simp only[VVlen]<;>omega)|fail) only[VV0,VV1,VV2,VV3,VV4,VV5,VV6,VV7,VV8,VV9,mkFnV,vargs,slotsL,opdsA,Nat.reduceEqDiff,Nat.reduceLT,Nat.reduceAdd,Nat.reduceBEq,Int.reduceAdd,Int.reduceSub,Int.reduceLT,Int.reduceLE,Int.reduceEq,Int.reduceNeg,↓reduceIte,reduceCtorEq,scL,scD,expand,List.replicate,vsh,vshL,shH,shO,fzSL,fzS,f2,rwA,rwB,rw1,rw2,rw3])|apply gC_drawW|((first|apply gI_dec|apply gG_dec|apply gPG_dec|apply gI_var|apply gG_var|apply gPG_var)<;>intro _))
   have q1:=pwind_p w 2 0 [1,2] 0 true (by decide)
   rw[wd6] at q1
   refine callV_of (by rw[hC];exact q1) rfl rfl rfl ?_
   clear q1
   repeat' (first|(simp (disch:=first|omega|assumption|exact bd (by with_unfolding_all rfl)|exact Or.inl rfl|exact Or.inl trivial|exact okL_map _ (fun _=>rfl) _|(simp only[VVlen]<;>omega)|fail) only[VV0,VV1,VV2,VV3,VV4,VV5,VV6,VV7,VV8,VV9,mkFnV,vargs,slotsL,opdsA,Nat.reduceEqDiff,Nat.reduceLT,Nat.reduceAdd,Nat.reduceBEq,Int.reduceAdd,Int.reduceSub,Int.reduceLT,Int.reduceLE,Int.reduceEq,Int.reduceNeg,↓reduceIte,reduceCtorEq,scL,scD,expand,List.replicate,vsh,vshL,shH,shO,fzSL,fzS,f2,rwA,rwB,rw1,rw2,rw3])|apply gC_drawW|((first|apply gI_dec|apply gG_dec|apply gPG_dec|apply gI_var|apply gG_var|apply gPG_var)<;>intro _))
   have q1:=pcones_p w 2 0 [1,2,3] 2 false (by decide)
   rw[cn1] at q1
   refine callV_of (by rw[hC];exact q1) rfl rfl rfl ?_
   clear q1
   repeat' (first|(simp (disch:=first|omega|assumption|exact bd (by with_unfolding_all rfl)|exact Or.inl rfl|exact Or.inl trivial|exact okL_map _ (fun _=>rfl) _|(simp only[VVlen]<;>omega)|fail) only[VV0,VV1,VV2,VV3,VV4,VV5,VV6,VV7,VV8,VV9,mkFnV,vargs,slotsL,opdsA,Nat.reduceEqDiff,Nat.reduceLT,Nat.reduceAdd,Nat.reduceBEq,Int.reduceAdd,Int.reduceSub,Int.reduceLT,Int.reduceLE,Int.reduceEq,Int.reduceNeg,↓reduceIte,reduceCtorEq,scL,scD,expand,List.replicate,vsh,vshL,shH,shO,fzSL,fzS,f2,rwA,rwB,rw1,rw2,rw3])|apply gC_drawW|((first|apply gI_dec|apply gG_dec|apply gPG_dec|apply gI_var|apply gG_var|apply gPG_var)<;>intro _))
   have q1:=pcones_p w 2 3 [] 1 false (by decide)
   rw[cn2] at q1
   refine callV_of (by rw[hC];exact VSpec.arg q1 (nil_arg fun _ _ h=>h)) rfl rfl rfl ?_
   clear q1
   repeat' (first|(simp (disch:=first|omega|assumption|exact bd (by with_unfolding_all rfl)|exact Or.inl rfl|exact Or.inl trivial|exact okL_map _ (fun _=>rfl) _|(simp only[VVlen]<;>omega)|fail) only[VV0,VV1,VV2,VV3,VV4,VV5,VV6,VV7,VV8,VV9,mkFnV,vargs,slotsL,opdsA,Nat.reduceEqDiff,Nat.reduceLT,Nat.reduceAdd,Nat.reduceBEq,Int.reduceAdd,Int.reduceSub,Int.reduceLT,Int.reduceLE,Int.reduceEq,Int.reduceNeg,↓reduceIte,reduceCtorEq,scL,scD,expand,List.replicate,vsh,vshL,shH,shO,fzSL,fzS,f2,rwA,rwB,rw1,rw2,rw3])|apply gC_drawW|((first|apply gI_dec|apply gG_dec|apply gPG_dec|apply gI_var|apply gG_var|apply gPG_var)<;>intro _))
   have q1:=pcones_p w 2 0 [1,2] 1 false (by decide)
   rw[cn3] at q1
   refine callV_of (by rw[hC];exact q1) rfl rfl rfl ?_
   clear q1
   repeat' (first|(simp (disch:=first|omega|assumption|exact bd (by with_unfolding_all rfl)|exact Or.inl rfl|exact Or.inl trivial|exact okL_map _ (fun _=>rfl) _|(simp only[VVlen]<;>omega)|fail) only[VV0,VV1,VV2,VV3,VV4,VV5,VV6,VV7,VV8,VV9,mkFnV,vargs,slotsL,opdsA,Nat.reduceEqDiff,Nat.reduceLT,Nat.reduceAdd,Nat.reduceBEq,Int.reduceAdd,Int.reduceSub,Int.reduceLT,Int.reduceLE,Int.reduceEq,Int.reduceNeg,↓reduceIte,reduceCtorEq,scL,scD,expand,List.replicate,vsh,vshL,shH,shO,fzSL,fzS,f2,rwA,rwB,rw1,rw2,rw3])|apply gC_drawW|((first|apply gI_dec|apply gG_dec|apply gPG_dec|apply gI_var|apply gG_var|apply gPG_var)<;>intro _))
   have q1:=pcones_p w 2 0 [1,2] 65 false (by decide)
   rw[cn4] at q1
   refine callV_of (by rw[hC];exact q1) rfl rfl rfl ?_
   clear q1
   repeat' (first|(simp (disch:=first|omega|assumption|exact bd (by with_unfolding_all rfl)|exact Or.inl rfl|exact Or.inl trivial|exact okL_map _ (fun _=>rfl) _|(simp only[VVlen]<;>omega)|fail) only[VV0,VV1,VV2,VV3,VV4,VV5,VV6,VV7,VV8,VV9,mkFnV,vargs,slotsL,opdsA,Nat.reduceEqDiff,Nat.reduceLT,Nat.reduceAdd,Nat.reduceBEq,Int.reduceAdd,Int.reduceSub,Int.reduceLT,Int.reduceLE,Int.reduceEq,Int.reduceNeg,↓reduceIte,reduceCtorEq,scL,scD,expand,List.replicate,vsh,vshL,shH,shO,fzSL,fzS,f2,rwA,rwB,rw1,rw2,rw3])|apply gC_drawW|((first|apply gI_dec|apply gG_dec|apply gPG_dec|apply gI_var|apply gG_var|apply gPG_var)<;>intro _))
   have q1:=pfewest_p w 1 3 [] true (by decide)
   rw[fw1] at q1
   refine callV_of (by rw[hC];exact VSpec.arg q1 (nil_arg fun _ _ h=>h)) rfl rfl rfl ?_
   clear q1
   repeat' (first|(simp (disch:=first|omega|assumption|exact bd (by with_unfolding_all rfl)|exact Or.inl rfl|exact Or.inl trivial|exact okL_map _ (fun _=>rfl) _|(simp only[VVlen]<;>omega)|fail) only[VV0,VV1,VV2,VV3,VV4,VV5,VV6,VV7,VV8,VV9,mkFnV,vargs,slotsL,opdsA,Nat.reduceEqDiff,Nat.reduceLT,Nat.reduceAdd,Nat.reduceBEq,Int.reduceAdd,Int.reduceSub,Int.reduceLT,Int.reduceLE,Int.reduceEq,Int.reduceNeg,↓reduceIte,reduceCtorEq,scL,scD,expand,List.replicate,vsh,vshL,shH,shO,fzSL,fzS,f2,rwA,rwB,rw1,rw2,rw3])|apply gC_drawW|((first|apply gI_dec|apply gG_dec|apply gPG_dec|apply gI_var|apply gG_var|apply gPG_var)<;>intro _))
   have q1:=uncross_p w 2 0 0 [1] [1,2] (by decide) (by decide)
   rw[un1] at q1
   refine callV_of (by rw[hC];exact q1) rfl rfl rfl ?_
   clear q1
   repeat' (first|(simp (disch:=first|omega|assumption|exact bd (by with_unfolding_all rfl)|exact Or.inl rfl|exact Or.inl trivial|exact okL_map _ (fun _=>rfl) _|(simp only[VVlen]<;>omega)|fail) only[VV0,VV1,VV2,VV3,VV4,VV5,VV6,VV7,VV8,VV9,mkFnV,vargs,slotsL,opdsA,Nat.reduceEqDiff,Nat.reduceLT,Nat.reduceAdd,Nat.reduceBEq,Int.reduceAdd,Int.reduceSub,Int.reduceLT,Int.reduceLE,Int.reduceEq,Int.reduceNeg,↓reduceIte,reduceCtorEq,scL,scD,expand,List.replicate,vsh,vshL,shH,shO,fzSL,fzS,f2,rwA,rwB,rw1,rw2,rw3])|apply gC_drawW|((first|apply gI_dec|apply gG_dec|apply gPG_dec|apply gI_var|apply gG_var|apply gPG_var)<;>intro _))
   obtain ⟨M4,m4⟩:∃ M:List Int,M=List.replicate (Int.toNat 2001) 0:=⟨_,rfl⟩
   obtain ⟨M5,m5⟩:∃ M:List Int,M=List.replicate (Int.toNat 2000) 0:=⟨_,rfl⟩
   rw[made_map 2001 m4,made_map 2000 m5,made_len 2001 m4,made_len 2000 m5]
   have q1:=uncross_long w 2 0 0 M4 M5 (by rw[m4,List.length_replicate];decide) (by rw[m5,List.length_replicate];decide) (by rw[m4,chk_rep];decide) (by rw[m5,chk_rep];decide) (.inr (by rw[m4,m5,List.length_replicate,List.length_replicate];rfl)) (by rw[m4,m5,List.length_replicate,List.length_replicate];decide)
   refine call0_of (by rw[hC];exact q1.flat rfl (snapL_2 (snap_ref (t:=3) (g:=false) (z:=false) (l:=M4) rfl) (snap_ref (t:=3) (g:=false) (z:=false) (l:=M5) rfl))) ?_
   clear q1
   repeat' (first|(simp (disch:=first|omega|assumption|exact bd (by with_unfolding_all rfl)|exact Or.inl rfl|exact Or.inl trivial|exact okL_map _ (fun _=>rfl) _|(simp only[VVlen]<;>omega)|fail) only[VV0,VV1,VV2,VV3,VV4,VV5,VV6,VV7,VV8,VV9,mkFnV,vargs,slotsL,opdsA,Nat.reduceEqDiff,Nat.reduceLT,Nat.reduceAdd,Nat.reduceBEq,Int.reduceAdd,Int.reduceSub,Int.reduceLT,Int.reduceLE,Int.reduceEq,Int.reduceNeg,↓reduceIte,reduceCtorEq,scL,scD,expand,List.replicate,vsh,vshL,shH,shO,fzSL,fzS,f2])|apply gC_drawW|((first|apply gI_dec|apply gG_dec|apply gPG_dec|apply gI_var|apply gG_var|apply gPG_var)<;>intro _))
   refine callV_flat (by rw[hC];exact alive_o w 7 _) ?_
   repeat' (first|(simp (disch:=first|omega|assumption|exact bd (by with_unfolding_all rfl)|exact Or.inl rfl|exact Or.inl trivial|exact okL_map _ (fun _=>rfl) _|(simp only[VVlen]<;>omega)|fail) only[VV0,VV1,VV2,VV3,VV4,VV5,VV6,VV7,VV8,VV9,mkFnV,vargs,slotsL,opdsA,Nat.reduceEqDiff,Nat.reduceLT,Nat.reduceAdd,Nat.reduceBEq,Int.reduceAdd,Int.reduceSub,Int.reduceLT,Int.reduceLE,Int.reduceEq,Int.reduceNeg,↓reduceIte,reduceCtorEq,scL,scD,expand,List.replicate,vsh,vshL,shH,shO,fzSL,fzS,f2,rw3])|apply gC_drawW|((first|apply gI_dec|apply gG_dec|apply gPG_dec|apply gI_var|apply gG_var|apply gPG_var)<;>intro _))
   refine callV_flat (by rw[hC];exact (same_p w 7 3 0 [1,1,15] (by decide)).flat rfl rfl) ?_
   repeat' (first|(simp (disch:=first|omega|assumption|exact bd (by with_unfolding_all rfl)|exact Or.inl rfl|exact Or.inl trivial|exact okL_map _ (fun _=>rfl) _|(simp only[VVlen]<;>omega)|fail) only[VV0,VV1,VV2,VV3,VV4,VV5,VV6,VV7,VV8,VV9,mkFnV,vargs,slotsL,opdsA,Nat.reduceEqDiff,Nat.reduceLT,Nat.reduceAdd,Nat.reduceBEq,Int.reduceAdd,Int.reduceSub,Int.reduceLT,Int.reduceLE,Int.reduceEq,Int.reduceNeg,↓reduceIte,reduceCtorEq,scL,scD,expand,List.replicate,vsh,vshL,shH,shO,fzSL,fzS,f2,rw3])|apply gC_drawW|((first|apply gI_dec|apply gG_dec|apply gPG_dec|apply gI_var|apply gG_var|apply gPG_var)<;>intro _))
   exact weak_flat rfl h0 rfl
end Go.Proofs.YtgglaaldlegckaaDoor
namespace Go.Proofs.YtgglaaldlegckaaDoor
open Go Go.Itp
open Go.ChangeShapes Go.WideShapes Go.ChangeAt Go.RowKit
set_option linter.unusedVariables false
set_option maxRecDepth 100000
set_option maxHeartbeats 4000000
theorem reach_lt:reachBytes≤140737488351232:=by decide
def listed:List (String × DataW Unit):= [("math/bits.deBruijn32tab",Rows.laid_math_bits_deBruijn32tab),("math/bits.deBruijn64tab",Rows.laid_math_bits_deBruijn64tab),("internal/strconv.uint64pow10",Rows.laid_internal_strconv_uint64pow10),("unicode/utf8.acceptRanges",Rows.laid_unicode_utf8_acceptRanges),("strconv.ErrRange",Rows.laid_strconv_ErrRange),("strconv.ErrSyntax",Rows.laid_strconv_ErrSyntax),("unicode/utf8.first",Rows.laid_unicode_utf8_first)]
theorem listed_met (os:Os) (args:Array Value):laidMetH Tryd.prog listed ((World.laidAll Tryd.prog os listed).forCall (fun _ _=>0) ⟨#[],args,[]⟩).memory:=by
 rw[MakeChecks.laidMetH_plain _ _ _ (by kernel_rfl)]
 exact laidMet_laidAll _ (by kernel_rfl) (by kernel_rfl)
theorem listed_shaped (os:Os):(World.laidAll Tryd.prog os listed).Shaped Tryd.prog:=World.shaped_of_ZipB (by kernel_rfl) (by kernel_rfl)
theorem stand_ins {l:List TypeId} {t:TypeId} (hall:(l.all fun u=> !Tryd.prog.wantsStandIn u)=true) (h:t ∈ l):Tryd.prog.wantsStandIn t=false:=by
 have:=List.all_eq_true.1 hall t h
 simpa using this
theorem names_lifted (os:Os) (started:os.Started) (H:Type) (enc:TypeId × Value→H):
  ReturnsInHanded {} Tryd.checked os 7 .any (fun w args=>(Rows.warpNamesSpec.pre enc Tryd.prog Tryd.f7 [] false w args∧laidMetH Tryd.prog listed w)∧sizedMet enc Tryd.prog Tryd.f7 (OpenSpec.ofChange Rows.warpNamesSpec) false w args)
   (Rows.warpNamesSpec.post enc Tryd.prog Tryd.f7 false true false false):=by
 refine returnsInHanded_of_change_and (C:=Tryd.checked) (X:=fun w _=>laidMetH Tryd.prog listed w) (fun _ _ _ hh h=>h.of_heap hh) own started (by kernel_rfl) Tryd.func7
  (ChangeSpec.witness_shaped (enc:=enc) (C:=Tryd.checked) (os:=os) (X:=fun w _=>laidMetH Tryd.prog listed w) false (World.laidAll Tryd.prog os listed) #[] 8 (World.laidAll_os _ _ _) (listed_shaped os) (by kernel_rfl) (by kernel_rfl) (by kernel_rfl) (listed_met os _)) ?_
 intro W base args ds gs before hval0 hW _ hsz0 hL _
 have hval:∀ (j:Nat) t v,Tryd.f7.params[j]? =some t→args[j]? =some v→Value.okWide Tryd.prog W .any base t v:=hval0
 have hW':=hW
 obtain ⟨p,q,hA0,hV,rfl,hfz,hnd⟩:=hW
 have hA:DataW.TrodAll enc Tryd.prog W 0 (fun _=>true) true Tryd.f7.params.toList args.toList ds p:=hA0
 have hsz:(DataW.weightsEach Tryd.prog (Tryd.f7.params.toList++Rows.warpNamesSpec.plain.varTypes Tryd.prog) (ds++gs)).all (· ≤reachBytes)=true:=hsz0
 rw[Tryd.params7] at hA hval hsz
 obtain ⟨hargs,rfl,rfl⟩:=trodAll_nil hA
 obtain rfl:args=#[]:=by cases args;simp_all
 have hr:=reach_lt
 have hLm:laidMet Tryd.prog listed W:=by rw[← MakeChecks.laidMetH_plain _ _ _ (by kernel_rfl)];exact hL
 have htab:Tab W:=laid_tab hLm 2 rfl (g:=3) (t:=135) (e:=108) (k:= .u64) (m:=20) (by kernel_rfl) (by kernel_rfl) Tryd.underlying135 Tryd.underlying108 (by kernel_rfl) (by kernel_rfl) rfl
 have hesy:(errO Tryd.prog W "strconv.ErrSyntax").isSome=true:=laid_errO hLm 5 rfl (g:=1) (t:=70) (by kernel_rfl) (by kernel_rfl) Tryd.underlying70
 have herr:(errO Tryd.prog W "strconv.ErrRange").isSome=true:=laid_errO hLm 4 rfl (g:=2) (t:=70) (by kernel_rfl) (by kernel_rfl) Tryd.underlying70
 obtain ⟨s',hbody⟩:=law_v (old:=oldOf W) (rounds:=many) (fns:=fns) (prims:=PR W) (n:=8) (af:=c7) (xs:= []) (xsI:= []) (x:= .bool true) (Nat.le_of_ble_eq_true rfl)
  (by simp only[VRepL]) fun C hC hn=>names_g W hesy herr hC hn
 have hfn:fns 7=some c7:=rfl
 have hrv:ids 0 (.bool true)= []:=rfl
 refine (law_of htab (f:=7) (af:=c7) hfn (xs:= []) rfl _ hbody hrv).mono fun e W' ⟨he,hbe⟩=>?_
 exact ⟨_,he,law_post hW' rfl rfl (by kernel_rfl) (by kernel_rfl) Tryd.underlying4 hbe⟩
theorem names_over:Rows.WarpNamesSaid:=
 OpenClaim.holds_of_wide 7 Tryd.f7 rfl rfl rfl rfl rfl rfl rfl ⟨rfl,rfl,rfl,rfl,rfl⟩ rfl rfl rfl rfl rfl (by kernel_rfl) Tryd.func7 (by kernel_rfl)
  (of_decide_eq_true (by kernel_rfl)) (by unfold Func.isWrapper;first|(rw[if_pos (by decide+kernel)];kernel_rfl)|(rw[if_neg (by decide+kernel)];exact ⟨rfl,rfl⟩))
  (fun os started H enc _=>names_lifted os started H enc)
theorem names_holds:Rows.WarpNamesCardSaid:=
 Claim7.holds_tied_plain_at .later [] [.data,.data,.data,.data,.sentinel,.sentinel,.pinned] true _ true
  names_over (fun _ h=>by cases h) (by kernel_rfl) (fun _ h=>by cases h) warpNames_row_tie rfl ⟨rfl,rfl⟩ (by kernel_rfl) rfl
  (fun f fn hf hfn=>by
   obtain rfl:f=7:=Option.some.inj ((show Tryd.prog.funcNamed "raddle/raddlelaw22.WarpNames"=some 7 by kernel_rfl).symm.trans hf)|>.symm
   obtain rfl:fn=Tryd.f7:=(Option.some.inj (Tryd.func7.symm.trans hfn)).symm
   exact ⟨by kernel_rfl,fun j t ht=>stand_ins (l:= []) (by kernel_rfl) (by rw[Tryd.params7] at ht;simpa using Array.mem_of_getElem? ht)⟩)
  (by kernel_rfl)
#print axioms names_holds
end Go.Proofs.YtgglaaldlegckaaDoor
