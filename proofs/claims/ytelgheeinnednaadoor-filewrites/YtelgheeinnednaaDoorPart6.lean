/- What is proved: the law FileWrites returns true for every input. Conditions: none beyond the card's own.
   Texts: F19m, F19n, F19o, F19p.
-/
import Derived.Test.YtelgheeinnednaaDoorPart5
import Derived.Test.YtelgheeinnednaaDoorCards
import Derived.Test.YtelgheeinnednaaDoorTie
import Derived.SizedLaws
import Derived.ChangeAt
import Derived.SevenTiedAt
import Derived.Stop.Joined
import Derived.Lay
namespace Go.Proofs.YtelgheeinnednaaDoor
open Go Go.Itp
set_option maxRecDepth 100000
set_option maxHeartbeats 1000000
set_option linter.unusedSimpArgs false
set_option linter.unusedVariables false
def headF (nm A1 A2:List UInt8):List UInt8:= [91,100,114,97,102,116,93,10,110,97,109,101,61]++(nm++([10,115,104,97,102,116,115,61]++(A1++([10,116,114,101,97,100,108,101,115,61]++(A2++ [10])))))
def bodyF (K1 T K2 K3 K4:List UInt8):List UInt8:= [91,116,104,114,101,97,100,105,110,103,93,10]++(K1++([91,116,105,101,117,112,93,10]++(T++([91,116,114,101,97,100,108,105,110,103,93,10]++(K2++([91,119,97,114,112,93,10]++(K3++([91,119,101,102,116,93,10]++K4))))))))
def textF (nm:List UInt8) (sh tr:Int) (th td:List Int) (B:List Bool) (wp wf:List Int):List UInt8:=
 headF nm (Lib.itoa sh) (Lib.itoa tr)++bodyF (keysTo th 1 th.length) (tieTo B tr.toNat sh.toNat tr.toNat) (keysTo td 1 td.length) (keysTo wp 0 wp.length) (keysTo wf 0 wf.length)
def writeF (nm:List UInt8) (sh tr:Int) (th td:List Int) (gw gh:Int) (B:List Bool) (wp wf:List Int):List UInt8 × Int:=
 if chkF nm sh tr th td gw gh B wp wf=0 then (textF nm sh tr th td B wp wf,0) else ([],chkF nm sh tr th td gw gh B wp wf)
theorem all_at {p:Int→Bool} {l:List Int} (h:l.all p=true):∀ j,j<l.length→p l[j]! =true:=fun j hj=>List.all_eq_true.1 h _ (by rw[getElem!_pos l j hj];exact List.getElem_mem hj)
theorem chkF_ok {nm:List UInt8} {sh tr:Int} {th td:List Int} {gw gh:Int} {B:List Bool} {wp wf:List Int} (h:chkF nm sh tr th td gw gh B wp wf=0):
  ∃ s t:Nat,sh=s∧tr=t∧gw=t∧gh=s∧s≤40∧t≤40∧B.length=t*s∧numsOK th 1∧numsOK td 1∧numsOK wp 0∧numsOK wf 0∧nm.length≤40∧th.length≤64∧td.length≤64∧wp.length≤64∧wf.length≤64:=by
 unfold chkF at h
 split at h
 case isFalse hn=>exact absurd h hn
 rename_i hD
 split at h
 case isFalse=>cases h
 rename_i hl
 split at h
 case isFalse=>cases h
 rename_i ha
 unfold chkD at hD
 split at hD
 ·cases hD
 rename_i h1
 split at hD
 case isFalse=>cases hD
 rename_i h2
 obtain ⟨w1,w2,hg,rfl,rfl⟩:=h2
 rw[Bool.and_eq_true,Bool.and_eq_true] at ha
 obtain ⟨hn,hc1,hc2⟩:=ha
 have p1:=wi_pos w1
 have p2:=wi_pos w2
 have q1:=(wi_iff.1 w1).1
 have q2:=(wi_iff.1 w2).1
 have hB:(B.length:Int)=gw*gh:=by
  unfold chkG at hg
  rw[if_neg (by omega),if_neg (by omega)] at hg
  split at hg
  ·assumption
  ·cases hg
 have hnm:nm.length≤40:=by
  unfold isName at hn
  rw[Bool.and_eq_true,decide_eq_true_eq] at hn
  exact hn.1.2
 have hcc:∀ {l:List Int},l.all okC=true→l.length≤64→numsOK l 0:=fun {l} hl h64=>⟨by omega,fun j hj=>by
  have:=all_at hl j hj
  unfold okC at this
  rw[decide_eq_true_eq] at this
  omega⟩
 refine ⟨gh.toNat,gw.toNat,by omega,by omega,by omega,by omega,by omega,by omega,?_,⟨by omega,fun j hj=>by have:=q1 j hj;omega⟩,⟨by omega,fun j hj=>by have:=q2 j hj;omega⟩,hcc hc1 (by omega),hcc hc2 (by omega),hnm,by omega,by omega,by omega,by omega⟩
 obtain ⟨s,rfl⟩:∃ s:Nat,gh=s:=⟨gh.toNat,by omega⟩
 obtain ⟨t,rfl⟩:∃ t:Nat,gw=t:=⟨gw.toNat,by omega⟩
 simp only[Int.toNat_natCast]
 have:((B.length:Nat):Int)=((t*s:Nat):Int):=by rw[hB];simp
 omega
section
variable (w:World) (n:Nat)
theorem rwrite_p (nm:List UInt8) (sh tr:Int) (th td:List Int) (gw gh:Int) (B:List Bool) (wp wf:List Int) (h1:th.length≤140737488351232) (h2:td.length≤140737488351232) (hB:B.length≤140737488351232) (h3:wp.length≤140737488351232) (h4:wf.length≤140737488351232) (h5:nm.length≤1000000):
  VSpec (EN w (n+4)) 7 [flV nm sh tr th td gw gh B wp wf] (.tup [strV (writeF nm sh tr th td gw gh B wp wf).1,iN (writeF nm sh tr th td gw gh B wp wf).2]) ⟨[],0,0⟩:=by
 have hck:=check19_p w n nm sh tr th td gw gh B wp wf h1 h2 hB h3 h4 h5
 unfold writeF
 by_cases hc:chkF nm sh tr th td gw gh B wp wf=0
 case neg=>
  rw[if_neg hc]
  generalize chkF nm sh tr th td gw gh B wp wf=E at*
  refine vspec_flat rfl rfl (fun _ _=>rfl) (Nat.le_of_ble_eq_true rfl) (oldVals w) rfl fun C hC h0=>?_
  simp (disch:=first|omega|assumption|exact bd (by with_unfolding_all rfl)|exact Or.inl rfl|exact Or.inl trivial|exact okL_map _ (fun _=>rfl) _|(simp only[VVlen]<;>omega)|fail) only[O1,WA,slotsL,opdsA,Nat.reduceEqDiff,Nat.reduceLT,Nat.reduceAdd,Nat.reduceBEq,Int.reduceAdd,Int.reduceSub,Int.reduceLT,Int.reduceLE,Int.reduceEq,Int.reduceNeg,↓reduceIte,reduceCtorEq,List.replicate,c7]
  refine callV_flat (by rw[hC];exact hck.flat rfl rfl) ?_
  simp (disch:=first|omega|assumption|exact bd (by with_unfolding_all rfl)|exact Or.inl rfl|exact Or.inl trivial|exact okL_map _ (fun _=>rfl) _|(simp only[VVlen]<;>omega)|fail) only[O1,WA,slotsL,opdsA,Nat.reduceEqDiff,Nat.reduceLT,Nat.reduceAdd,Nat.reduceBEq,Int.reduceAdd,Int.reduceSub,Int.reduceLT,Int.reduceLE,Int.reduceEq,Int.reduceNeg,↓reduceIte,reduceCtorEq,List.replicate]
  all_goals try (exfalso;exact absurd ‹E=0› hc)
  refine callV_flat (by rw[hC];exact hck.flat rfl rfl) ?_
  repeat' (first|(simp (disch:=first|omega|assumption|exact bd (by with_unfolding_all rfl)|exact Or.inl rfl|exact Or.inl trivial|exact okL_map _ (fun _=>rfl) _|(simp only[VVlen]<;>omega)|fail) only[O1,WA,slotsL,opdsA,Nat.reduceEqDiff,Nat.reduceLT,Nat.reduceAdd,Nat.reduceBEq,Int.reduceAdd,Int.reduceSub,Int.reduceLT,Int.reduceLE,Int.reduceEq,Int.reduceNeg,↓reduceIte,reduceCtorEq,List.replicate])|apply gC_drawW|((first|apply gI_dec|apply gG_dec|apply gPG_dec|apply gI_var|apply gG_var|apply gPG_var)<;>intro _))
  exact weak_flat rfl h0 rfl
 rw[if_pos hc]
 obtain ⟨s,t,rfl,rfl,rfl,rfl,b1,b2,bL,k1,k2,k3,k4,bn,l1,l2,l3,l4⟩:=chkF_ok hc
 rw[hc] at hck
 clear hc
 have d1:∀ C:Ctx,C.E=callP (oldOf w) many fns (PR w) (n+3)→∀ st:VSt,VSpecO C.E 19 st [iN s] (strV (Lib.itoa s)):=fun C hC st=>(dec_p w (n+1) s (by omega) (by omega)).of hC rfl st rfl
 have d2:∀ C:Ctx,C.E=callP (oldOf w) many fns (PR w) (n+3)→∀ st:VSt,VSpecO C.E 19 st [iN t] (strV (Lib.itoa t)):=fun C hC st=>(dec_p w (n+1) t (by omega) (by omega)).of hC rfl st rfl
 have e1:∀ C:Ctx,C.E=callP (oldOf w) many fns (PR w) (n+3)→∀ st:VSt,VSpecO C.E 20 st [iS th,iN 1] (strV (keysTo th 1 th.length)):=fun C hC st=>(keys_p w n th 1 (by omega) k1).of hC rfl st rfl
 have e2:∀ C:Ctx,C.E=callP (oldOf w) many fns (PR w) (n+3)→∀ st:VSt,VSpecO C.E 20 st [iS td,iN 1] (strV (keysTo td 1 td.length)):=fun C hC st=>(keys_p w n td 1 (by omega) k2).of hC rfl st rfl
 have e3:∀ C:Ctx,C.E=callP (oldOf w) many fns (PR w) (n+3)→∀ st:VSt,VSpecO C.E 20 st [iS wp,iN 0] (strV (keysTo wp 0 wp.length)):=fun C hC st=>(keys_p w n wp 0 (by omega) k3).of hC rfl st rfl
 have e4:∀ C:Ctx,C.E=callP (oldOf w) many fns (PR w) (n+3)→∀ st:VSt,VSpecO C.E 20 st [iS wf,iN 0] (strV (keysTo wf 0 wf.length)):=fun C hC st=>(keys_p w n wf 0 (by omega) k4).of hC rfl st rfl
 have e5:∀ C:Ctx,C.E=callP (oldOf w) many fns (PR w) (n+3)→∀ st:VSt,VSpecO C.E 21 st [drV s t th td t s B] (strV (tieTo B t s t)):=fun C hC st=>(ties_p w n s t th td B b2 b1 bL).of hC rfl st rfl
 have m1:=keysTo_len th 1 k1 _ (Nat.le_refl _)
 have m2:=keysTo_len td 1 k2 _ (Nat.le_refl _)
 have m3:=keysTo_len wp 0 k3 _ (Nat.le_refl _)
 have m4:=keysTo_len wf 0 k4 _ (Nat.le_refl _)
 have m5:=tieTo_len B t s b1 t (by omega)
 have a1:=Lib.itoa_length_le (s:Int) (by omega) (by omega)
 have a2:=Lib.itoa_length_le (t:Int) (by omega) (by omega)
 have ht:textF nm s t th td B wp wf=headF nm (Lib.itoa s) (Lib.itoa t)++bodyF (keysTo th 1 th.length) (tieTo B t s t) (keysTo td 1 td.length) (keysTo wp 0 wp.length) (keysTo wf 0 wf.length):=rfl
 generalize textF nm s t th td B wp wf=TX at*
 generalize keysTo th 1 th.length=K1 at*
 generalize keysTo td 1 td.length=K2 at*
 generalize keysTo wp 0 wp.length=K3 at*
 generalize keysTo wf 0 wf.length=K4 at*
 generalize tieTo B t s t=T at*
 generalize Lib.itoa (s:Int)=A1 at*
 generalize Lib.itoa (t:Int)=A2 at*
 simp only[headF,bodyF,List.append_assoc,List.cons_append,List.nil_append] at ht
 refine vspec_flat rfl rfl (fun _ _=>rfl) (Nat.le_of_ble_eq_true rfl) (oldVals w) rfl fun C hC h0=>?_
 simp (disch:=first|omega|assumption|exact bd (by with_unfolding_all rfl)|exact Or.inl rfl|exact Or.inl trivial|exact okL_map _ (fun _=>rfl) _|(simp only[VVlen]<;>omega)|fail) only[O1,WA,slotsL,opdsA,Nat.reduceEqDiff,Nat.reduceLT,Nat.reduceAdd,Nat.reduceBEq,Int.reduceAdd,Int.reduceSub,Int.reduceLT,Int.reduceLE,Int.reduceEq,Int.reduceNeg,↓reduceIte,reduceCtorEq,List.replicate,c7]
 refine callV_flat (by rw[hC];exact hck.flat rfl rfl) ?_
 simp (disch:=first|omega|assumption|exact bd (by with_unfolding_all rfl)|exact Or.inl rfl|exact Or.inl trivial|exact okL_map _ (fun _=>rfl) _|(simp only[VVlen]<;>omega)|fail) only[O1,WA,slotsL,opdsA,Nat.reduceEqDiff,Nat.reduceLT,Nat.reduceAdd,Nat.reduceBEq,Int.reduceAdd,Int.reduceSub,Int.reduceLT,Int.reduceLE,Int.reduceEq,Int.reduceNeg,↓reduceIte,reduceCtorEq,List.replicate,cat_l,List.append_assoc]
 all_goals try (exfalso;omega)
 refine call0_of (d1 C hC _) ?_
 simp (disch:=first|omega|assumption|exact bd (by with_unfolding_all rfl)|exact Or.inl rfl|exact Or.inl trivial|exact okL_map _ (fun _=>rfl) _|(simp only[VVlen]<;>omega)|fail) only[O1,WA,slotsL,opdsA,Nat.reduceEqDiff,Nat.reduceLT,Nat.reduceAdd,Nat.reduceBEq,Int.reduceAdd,Int.reduceSub,Int.reduceLT,Int.reduceLE,Int.reduceEq,Int.reduceNeg,↓reduceIte,reduceCtorEq,List.replicate,cat_l,List.append_assoc]
 all_goals try (exfalso;omega)
 refine call0_of (d2 C hC _) ?_
 simp (disch:=first|omega|assumption|exact bd (by with_unfolding_all rfl)|exact Or.inl rfl|exact Or.inl trivial|exact okL_map _ (fun _=>rfl) _|(simp only[VVlen]<;>omega)|fail) only[O1,WA,slotsL,opdsA,Nat.reduceEqDiff,Nat.reduceLT,Nat.reduceAdd,Nat.reduceBEq,Int.reduceAdd,Int.reduceSub,Int.reduceLT,Int.reduceLE,Int.reduceEq,Int.reduceNeg,↓reduceIte,reduceCtorEq,List.replicate,cat_l,List.append_assoc]
 all_goals try (exfalso;omega)
 refine call0_of (e1 C hC _) ?_
 simp (disch:=first|omega|assumption|exact bd (by with_unfolding_all rfl)|exact Or.inl rfl|exact Or.inl trivial|exact okL_map _ (fun _=>rfl) _|(simp only[VVlen]<;>omega)|fail) only[O1,WA,slotsL,opdsA,Nat.reduceEqDiff,Nat.reduceLT,Nat.reduceAdd,Nat.reduceBEq,Int.reduceAdd,Int.reduceSub,Int.reduceLT,Int.reduceLE,Int.reduceEq,Int.reduceNeg,↓reduceIte,reduceCtorEq,List.replicate,cat_l,List.append_assoc]
 all_goals try (exfalso;omega)
 refine call0_of (e5 C hC _) ?_
 simp (disch:=first|omega|assumption|exact bd (by with_unfolding_all rfl)|exact Or.inl rfl|exact Or.inl trivial|exact okL_map _ (fun _=>rfl) _|(simp only[VVlen]<;>omega)|fail) only[O1,WA,slotsL,opdsA,Nat.reduceEqDiff,Nat.reduceLT,Nat.reduceAdd,Nat.reduceBEq,Int.reduceAdd,Int.reduceSub,Int.reduceLT,Int.reduceLE,Int.reduceEq,Int.reduceNeg,↓reduceIte,reduceCtorEq,List.replicate,cat_l,List.append_assoc]
 all_goals try (exfalso;omega)
 refine call0_of (e2 C hC _) ?_
 simp (disch:=first|omega|assumption|exact bd (by with_unfolding_all rfl)|exact Or.inl rfl|exact Or.inl trivial|exact okL_map _ (fun _=>rfl) _|(simp only[VVlen]<;>omega)|fail) only[O1,WA,slotsL,opdsA,Nat.reduceEqDiff,Nat.reduceLT,Nat.reduceAdd,Nat.reduceBEq,Int.reduceAdd,Int.reduceSub,Int.reduceLT,Int.reduceLE,Int.reduceEq,Int.reduceNeg,↓reduceIte,reduceCtorEq,List.replicate,cat_l,List.append_assoc]
 all_goals try (exfalso;omega)
 refine call0_of (e3 C hC _) ?_
 simp (disch:=first|omega|assumption|exact bd (by with_unfolding_all rfl)|exact Or.inl rfl|exact Or.inl trivial|exact okL_map _ (fun _=>rfl) _|(simp only[VVlen]<;>omega)|fail) only[O1,WA,slotsL,opdsA,Nat.reduceEqDiff,Nat.reduceLT,Nat.reduceAdd,Nat.reduceBEq,Int.reduceAdd,Int.reduceSub,Int.reduceLT,Int.reduceLE,Int.reduceEq,Int.reduceNeg,↓reduceIte,reduceCtorEq,List.replicate,cat_l,List.append_assoc]
 all_goals try (exfalso;omega)
 refine call0_of (e4 C hC _) ?_
 simp (disch:=first|omega|assumption|exact bd (by with_unfolding_all rfl)|exact Or.inl rfl|exact Or.inl trivial|exact okL_map _ (fun _=>rfl) _|(simp only[VVlen]<;>omega)|fail) only[O1,WA,slotsL,opdsA,Nat.reduceEqDiff,Nat.reduceLT,Nat.reduceAdd,Nat.reduceBEq,Int.reduceAdd,Int.reduceSub,Int.reduceLT,Int.reduceLE,Int.reduceEq,Int.reduceNeg,↓reduceIte,reduceCtorEq,List.replicate,cat_l,List.append_assoc]
 all_goals try (exfalso;omega)
 rw[ht]
 exact weak_flat rfl h0 rfl
end
theorem row1V_str (nx t:Nat) (b:ByteArray):mkRowV nx t 1 1 [.string ⟨#[]⟩] [(0,1,.sc (.string b))]=some (.ref nx 0 1 1,some (.row t 1 false false [.sc (.string b)]),[]):=(rfl)
theorem ag1 (x:Nat) (a b c:Itp.Obj):aget [(x+2,a),(1,b),(0,c)] 1=some b:=by
 rw[aget_cons,if_neg (by omega),aget_cons,if_pos rfl]
theorem ag2 (x:Nat) (a b c:Itp.Obj):aget [(x+2,a),(1,b),(0,c)] (x+2)=some a:=by
 rw[aget_cons,if_pos rfl]
theorem ag3 (x:Nat) (a b c d:Itp.Obj):aset (adel (x+2) [(x+2,a),(1,b),(0,c)]) 1 d= [(1,d),(0,c)]:=by
 simp[adel_cons',aset_cons',adel_nil,aset_nil]
theorem okRen3 (q:Nat):okRen 0 0 3 [(q+3,2),(1,1),(0,0)]=true:=by
 simp[okRen,notIn,notKey]
 exact ⟨⟨⟨rfl,rfl⟩,rfl,rfl⟩,rfl⟩
theorem renH3 (q k:Nat) (a b c:Itp.Obj) (ρ:List (Nat × Nat)):(⟨renH ρ [(q+3,a),(1,b),(0,c)] [(q+3,2),(1,1),(0,0)],k,0⟩:VSt)=⟨[(2,renO ρ a),(1,renO ρ b),(0,renO ρ c)],k,0⟩:=by
 simp[renH,aget_cons]
theorem renB3 (q t e m:Nat):renO [(q+3,2),(1,1),(0,0)] (.box t e [.ptr 1 0,.gr 2 (q+3) m])= .box t e [.ptr 1 0,.gr 2 2 m]:=by
 simp[renO,vrenL,vren,aget_cons]
section
variable (w:World) (n:Nat)
theorem write_inner {C:Ctx} (hC:C.E=EN w (n+5)) (h0:C.w0.nx=0) (nm:List UInt8) (s t x:Nat) (th td:List Int) (B:List Bool) (wp wf:List Int) (b1:s≤40) (b2:t≤40) (bL:B.length=t*s) (hx:x<t) (F:List UInt8) {K:List KF} {P:VPost}
  (hgo:gK C K .normal [(1,.ptr 0 0),(5,.ptr 1 0),(6,iN x),(7,.gr 2 3 (upL B t x s).length),(38,iN t),(39,iN x),(44,iN s),(45,iN s),(46,.sc (.bool false))] ⟨[(3,.gro 9 1 false ((upL B t x s).map sD)),(2,.gro 5 1 false (strD ⟨F.toArray⟩)),(1,.box 45 1 [.ptr 1 0,.gr 2 2 F.length]),(0,.box 29 1 [strV nm,iN s,iN t,iS th,iS td,iN t,iN s,oS B,iS wp,iS wf])],4,0⟩ P):
  gL C [1,5,6,7,38,39,44,45] c6l0 (.block 2::K) [(1,.ptr 0 0),(5,.ptr 1 0),(6,iN x),(7,.sc (.slice none 0 0)),(38,iN t),(39,iN x),(44,iN s),(45,iN 0)]
   ⟨[(2,.gro 5 1 false (strD ⟨F.toArray⟩)),(1,.box 45 1 [.ptr 1 0,.gr 2 2 F.length]),(0,.box 29 1 [strV nm,iN s,iN t,iS th,iS td,iN t,iN s,oS B,iS wp,iS wf])],3,0⟩ P:=by
 have hrn:C.E.rounds=many:=by rw[hC,callP_rounds]
 refine g_while (fun m fr st=>∃ y:Nat,m=s - y∧y≤s∧fr= [(1,.ptr 0 0),(5,.ptr 1 0),(6,iN x),(7,.gr 2 3 (upL B t x y).length),(38,iN t),(39,iN x),(44,iN s),(45,iN y)]∧
  st=⟨[(3,.gro 9 1 false ((upL B t x y).map sD)),(2,.gro 5 1 false (strD ⟨F.toArray⟩)),(1,.box 45 1 [.ptr 1 0,.gr 2 2 F.length]),(0,.box 29 1 [strV nm,iN s,iN t,iS th,iS td,iN t,iN s,oS B,iS wp,iS wf])],4,0⟩) s ?_ ⟨_,_,weak_nilSlot 7 9 1 rfl,0,by omega,Nat.zero_le _,rfl,rfl⟩ ?_
 ·rw[hrn];unfold many;omega
 rintro m fr st ⟨y,rfl,hy,rfl,rfl⟩
 have hul:=upL_len B t x y
 by_cases hlt:y<s
 case neg=>
  have:y=s:=by omega
  subst this
  simp (disch:=first|omega|assumption|exact bd (by with_unfolding_all rfl)|exact Or.inl rfl|exact Or.inl trivial|exact okL_map _ (fun _=>rfl) _|(simp only[VVlen]<;>omega)|fail) only[O1,WA,slotsL,opdsA,Nat.reduceEqDiff,Nat.reduceLT,Nat.reduceAdd,Nat.reduceBEq,Int.reduceAdd,Int.reduceSub,Int.reduceLT,Int.reduceLE,Int.reduceEq,Int.reduceNeg,↓reduceIte,reduceCtorEq,List.replicate,c6l0]
  all_goals try (exfalso;omega)
  exact hgo
 have hu:upL B t x (y+1)=upL B t x y++(if B[y*t+x]! then [Lib.itoa ((y:Int)+1)] else []):=rfl
 obtain ⟨P',hP⟩:∃ P,P=y*t:=⟨_,rfl⟩
 have hP1:(y:Int)*(t:Int)=(P':Int):=by rw[hP];simp
 have hb:P'+t≤B.length:=by rw[bL,hP,← Nat.succ_mul,Nat.mul_comm t s];exact Nat.mul_le_mul_right t hlt
 have hB:B.length≤4096:=by rw[bL];exact Nat.mul_le_mul (by omega:t≤64) (by omega:s≤64)
 have hix:((P':Int)+(x:Int)).toNat=P'+x:=by omega
 have d1:=fun st=>itoa_s w (n+4) st ((y:Int)+1) (by omega) (by omega)
 rw[← hP] at hu
 by_cases hbt:B[P'+x]! =true
 ·rw[if_pos hbt] at hu
  simp (disch:=first|omega|assumption|exact bd (by with_unfolding_all rfl)|exact Or.inl rfl|exact Or.inl trivial|exact okL_map _ (fun _=>rfl) _|(simp only[VVlen]<;>omega)|fail) only[O1,WA,slotsL,opdsA,Nat.reduceEqDiff,Nat.reduceLT,Nat.reduceAdd,Nat.reduceBEq,Int.reduceAdd,Int.reduceSub,Int.reduceLT,Int.reduceLE,Int.reduceEq,Int.reduceNeg,↓reduceIte,reduceCtorEq,List.replicate,c6l0,hP1,oD_dv,hix,hbt]
  all_goals try (exfalso;omega)
  refine callV_flat (by rw[hC];exact d1 _) ?_
  simp (disch:=first|omega|assumption|exact bd (by with_unfolding_all rfl)|exact Or.inl rfl|exact Or.inl trivial|exact okL_map _ (fun _=>rfl) _|(simp only[VVlen]<;>omega)|fail) only[O1,WA,slotsL,opdsA,Nat.reduceEqDiff,Nat.reduceLT,Nat.reduceAdd,Nat.reduceBEq,Int.reduceAdd,Int.reduceSub,Int.reduceLT,Int.reduceLE,Int.reduceEq,Int.reduceNeg,↓reduceIte,reduceCtorEq,List.replicate,row1V_str]
  all_goals try (exfalso;omega)
  refine ⟨s - (y+1),_,_,by omega,weak_to [(5,3),(2,2),(1,1),(0,0)] 4 h0 rfl rfl rfl rfl,y+1,rfl,hlt,?_,?_⟩
  ·rw[hu,List.length_append];rfl
  ·rw[hu,List.map_append];rfl
 ·rw[if_neg hbt,List.append_nil] at hu
  rw[Bool.not_eq_true] at hbt
  simp (disch:=first|omega|assumption|exact bd (by with_unfolding_all rfl)|exact Or.inl rfl|exact Or.inl trivial|exact okL_map _ (fun _=>rfl) _|(simp only[VVlen]<;>omega)|fail) only[O1,WA,slotsL,opdsA,Nat.reduceEqDiff,Nat.reduceLT,Nat.reduceAdd,Nat.reduceBEq,Int.reduceAdd,Int.reduceSub,Int.reduceLT,Int.reduceLE,Int.reduceEq,Int.reduceNeg,↓reduceIte,reduceCtorEq,List.replicate,c6l0,hP1,oD_dv,hix,hbt]
  all_goals try (exfalso;omega)
  exact ⟨s - (y+1),_,_,by omega,.refl _ _,y+1,rfl,hlt,by rw[hu];rfl,by rw[hu]⟩
theorem write_p (nm:List UInt8) (sh tr:Int) (th td:List Int) (gw gh:Int) (B:List Bool) (wp wf:List Int) (h1:th.length≤140737488351232) (h2:td.length≤140737488351232) (hB:B.length≤140737488351232) (h3:wp.length≤140737488351232) (h4:wf.length≤140737488351232) (h5:nm.length≤1000000):
  VSpec (EN w (n+6)) 6 [flV nm sh tr th td gw gh B wp wf] (.tup [strV (writeF nm sh tr th td gw gh B wp wf).1,iN (writeF nm sh tr th td gw gh B wp wf).2]) ⟨[],0,0⟩:=by
 have hck:=fcheck_p w (n+1) nm sh tr th td gw gh B wp wf h1 h2 hB h3 h4 h5
 unfold writeF
 by_cases hc:chkF nm sh tr th td gw gh B wp wf=0
 case neg=>
  rw[if_neg hc]
  generalize chkF nm sh tr th td gw gh B wp wf=E at*
  refine vspec_flat rfl rfl (fun _ _=>rfl) (Nat.le_of_ble_eq_true rfl) (oldVals w) rfl fun C hC h0=>?_
  simp (disch:=first|omega|assumption|exact bd (by with_unfolding_all rfl)|exact Or.inl rfl|exact Or.inl trivial|exact okL_map _ (fun _=>rfl) _|(simp only[VVlen]<;>omega)|fail) only[O1,WA,slotsL,opdsA,Nat.reduceEqDiff,Nat.reduceLT,Nat.reduceAdd,Nat.reduceBEq,Int.reduceAdd,Int.reduceSub,Int.reduceLT,Int.reduceLE,Int.reduceEq,Int.reduceNeg,↓reduceIte,reduceCtorEq,List.replicate,c6]
  refine callV_flat (by rw[hC];exact hck.flat rfl rfl) ?_
  simp (disch:=first|omega|assumption|exact bd (by with_unfolding_all rfl)|exact Or.inl rfl|exact Or.inl trivial|exact okL_map _ (fun _=>rfl) _|(simp only[VVlen]<;>omega)|fail) only[O1,WA,slotsL,opdsA,Nat.reduceEqDiff,Nat.reduceLT,Nat.reduceAdd,Nat.reduceBEq,Int.reduceAdd,Int.reduceSub,Int.reduceLT,Int.reduceLE,Int.reduceEq,Int.reduceNeg,↓reduceIte,reduceCtorEq,List.replicate]
  all_goals try (exfalso;exact absurd ‹E=0› hc)
  exact weak_flat rfl h0 rfl
 rw[if_pos hc]
 obtain ⟨s,t,rfl,rfl,rfl,rfl,b1,b2,bL,k1,k2,k3,k4,bn,l1,l2,l3,l4⟩:=chkF_ok hc
 rw[hc] at hck
 clear hc
 have m1:=keysTo_len th 1 k1 _ (Nat.le_refl _)
 have m2:=keysTo_len td 1 k2 _ (Nat.le_refl _)
 have m3:=keysTo_len wp 0 k3 _ (Nat.le_refl _)
 have m4:=keysTo_len wf 0 k4 _ (Nat.le_refl _)
 have m5:=fun x hx=>tieTo_len B t s b1 x hx
 have a1:=Lib.itoa_length_le (s:Int) (by omega) (by omega)
 have a2:=Lib.itoa_length_le (t:Int) (by omega) (by omega)
 have i1:=fun st=>itoa_s w (n+4) st (s:Int) (by omega) (by omega)
 have i2:=fun st=>itoa_s w (n+4) st (t:Int) (by omega) (by omega)
 have ht:textF nm s t th td B wp wf=headF nm (Lib.itoa s) (Lib.itoa t)++bodyF (keysTo th 1 th.length) (tieTo B t s t) (keysTo td 1 td.length) (keysTo wp 0 wp.length) (keysTo wf 0 wf.length):=rfl
 have hh:headF nm (Lib.itoa s) (Lib.itoa t)=headF nm (Lib.itoa s) (Lib.itoa t):=rfl
 generalize textF nm s t th td B wp wf=TX at*
 generalize Lib.itoa (s:Int)=A1 at*
 generalize Lib.itoa (t:Int)=A2 at*
 generalize hH:headF nm A1 A2=H at ht
 have hHl:H.length≤200:=by rw[← hH];simp only[headF,List.length_append,List.length_cons,List.length_nil];omega
 simp only[headF,List.append_assoc,List.cons_append,List.nil_append] at hH
 clear hh
 refine vspec_flat rfl rfl (fun _ _=>rfl) (Nat.le_of_ble_eq_true rfl) (oldVals w) rfl fun C hC h0=>?_
 have hrn:C.E.rounds=many:=by rw[hC,callP_rounds]
 simp (disch:=first|omega|assumption|exact bd (by with_unfolding_all rfl)|exact Or.inl rfl|exact Or.inl trivial|exact okL_map _ (fun _=>rfl) _|(simp only[VVlen]<;>omega)|fail) only[O1,WA,slotsL,opdsA,Nat.reduceEqDiff,Nat.reduceLT,Nat.reduceAdd,Nat.reduceBEq,Int.reduceAdd,Int.reduceSub,Int.reduceLT,Int.reduceLE,Int.reduceEq,Int.reduceNeg,↓reduceIte,reduceCtorEq,List.replicate,c6]
 refine callV_flat (by rw[hC];exact hck.flat rfl rfl) ?_
 simp (disch:=first|omega|assumption|exact bd (by with_unfolding_all rfl)|exact Or.inl rfl|exact Or.inl trivial|exact okL_map _ (fun _=>rfl) _|(simp only[VVlen]<;>omega)|fail) only[O1,WA,slotsL,opdsA,Nat.reduceEqDiff,Nat.reduceLT,Nat.reduceAdd,Nat.reduceBEq,Int.reduceAdd,Int.reduceSub,Int.reduceLT,Int.reduceLE,Int.reduceEq,Int.reduceNeg,↓reduceIte,reduceCtorEq,List.replicate,cat_l,List.append_assoc]
 all_goals try (exfalso;omega)
 refine call0_of (by rw[hC];exact i1 _) ?_
 simp (disch:=first|omega|assumption|exact bd (by with_unfolding_all rfl)|exact Or.inl rfl|exact Or.inl trivial|exact okL_map _ (fun _=>rfl) _|(simp only[VVlen]<;>omega)|fail) only[O1,WA,slotsL,opdsA,Nat.reduceEqDiff,Nat.reduceLT,Nat.reduceAdd,Nat.reduceBEq,Int.reduceAdd,Int.reduceSub,Int.reduceLT,Int.reduceLE,Int.reduceEq,Int.reduceNeg,↓reduceIte,reduceCtorEq,List.replicate,cat_l,List.append_assoc]
 all_goals try (exfalso;omega)
 refine call0_of (by rw[hC];exact i2 _) ?_
 simp (disch:=first|omega|assumption|exact bd (by with_unfolding_all rfl)|exact Or.inl rfl|exact Or.inl trivial|exact okL_map _ (fun _=>rfl) _|(simp only[VVlen]<;>omega)|fail) only[O1,WA,slotsL,opdsA,Nat.reduceEqDiff,Nat.reduceLT,Nat.reduceAdd,Nat.reduceBEq,Int.reduceAdd,Int.reduceSub,Int.reduceLT,Int.reduceLE,Int.reduceEq,Int.reduceNeg,↓reduceIte,reduceCtorEq,List.replicate,cat_l,List.append_assoc,hH]
 all_goals try (exfalso;omega)
 refine callV_weak (fun C' hn'=>weak_nilCell (C:=C') (fr:= []) (l:= [.sc (.pointer none),.sc (.slice none 0 0)]) 1 45 1 1 5 1 rfl rfl (Nat.ne_of_beq_eq_false rfl)) ?_
 refine wStr_w w (n+2) hC 1 2 (.sc (.pointer none)) [] H rfl rfl (.inl rfl) (Nat.zero_le _) (Nat.zero_le _) (by decide) (Nat.ne_of_beq_eq_false rfl) (by simp;omega) ?_
 simp (disch:=first|omega|assumption|exact bd (by with_unfolding_all rfl)|exact Or.inl rfl|exact Or.inl trivial|exact okL_map _ (fun _=>rfl) _|(simp only[VVlen]<;>omega)|fail) only[O1,WA,slotsL,opdsA,Nat.reduceEqDiff,Nat.reduceLT,Nat.reduceAdd,Nat.reduceBEq,Int.reduceAdd,Int.reduceSub,Int.reduceLT,Int.reduceLE,Int.reduceEq,Int.reduceNeg,↓reduceIte,reduceCtorEq,List.replicate]
 obtain ⟨H1,hH1⟩:∃ H1,H1=H++91::(([116,104,114,101,97,100,105,110,103]:List UInt8)++93::10::keysTo th 1 th.length):=⟨_,rfl⟩
 have hl1:H1.length≤20000:=by rw[hH1];simp only[List.length_append,List.length_cons,List.length_nil];omega
 refine list_w w (n+1) hC 1 (.ptr 1 0) _ H [116,104,114,101,97,100,105,110,103] th 1 (by omega) k1 (.inr rfl) (by omega) (by decide) fun q1=>?_
 rw[← hH1]
 refine wStr_w w (n+2) hC 1 (q1+2) (.ptr 1 0) H1 [91,116,105,101,117,112,93,10] (ag1 ..) (ag2 ..) (.inr rfl) (Nat.zero_le _) (Nat.zero_le _) (by omega) (by show 1 ≠ q1+3;omega) (by simp;omega) ?_
 rw[ag3]
 obtain ⟨H2,hH2⟩:∃ H2,H2=H1++([91,116,105,101,117,112,93,10]:List UInt8):=⟨_,rfl⟩
 have hl2:H2.length=H1.length+([91,116,105,101,117,112,93,10]:List UInt8).length:=by rw[hH2];simp
 rw[← hH2,← hl2]
 simp only[List.length_cons,List.length_nil] at hl2
 simp (disch:=first|omega|assumption|exact bd (by with_unfolding_all rfl)|exact Or.inl rfl|exact Or.inl trivial|exact okL_map _ (fun _=>rfl) _|(simp only[VVlen]<;>omega)|fail) only[O1,WA,slotsL,opdsA,Nat.reduceEqDiff,Nat.reduceLT,Nat.reduceAdd,Nat.reduceBEq,Int.reduceAdd,Int.reduceSub,Int.reduceLT,Int.reduceLE,Int.reduceEq,Int.reduceNeg,↓reduceIte,reduceCtorEq,List.replicate]
 refine g_while (fun m fr st=>∃ x:Nat,m=t - x∧x≤t∧fr= [(1,.ptr 0 0),(5,.ptr 1 0),(38,iN t),(39,iN x)]∧st=⟨[(2,.gro 5 1 false (strD ⟨(H2++tieTo B t s x).toArray⟩)),(1,.box 45 1 [.ptr 1 0,.gr 2 2 (H2++tieTo B t s x).length]),(0,.box 29 1 [strV nm,iN s,iN t,iS th,iS td,iN t,iN s,oS B,iS wp,iS wf])],3,0⟩) t ?_
  ⟨_,_,weak_to [(q1+3,2),(1,1),(0,0)] 3 h0 rfl ?_ ?_ ?_,0,by omega,by omega,rfl,rfl⟩ ?_
 ·rw[hrn];unfold many;omega
 ·exact okRen3 q1
 ·rfl
 ·rw[renH3]
  simp only[tieTo,List.append_nil]
  rw[renB3]
  rfl
 rintro m fr st ⟨x,rfl,hx,rfl,rfl⟩
 have hxl:=m5 x (by omega)
 have hgl:(H2++tieTo B t s x).length≤100000:=by rw[List.length_append];omega
 by_cases hlt:x<t
 case neg=>
  have:x=t:=by omega
  subst this
  obtain ⟨H3,hH3⟩:∃ H3,H3=H2++tieTo B x s x:=⟨_,rfl⟩
  rw[← hH3] at hgl ⊢
  simp (disch:=first|omega|assumption|exact bd (by with_unfolding_all rfl)|exact Or.inl rfl|exact Or.inl trivial|exact okL_map _ (fun _=>rfl) _|(simp only[VVlen]<;>omega)|fail) only[O1,WA,slotsL,opdsA,Nat.reduceEqDiff,Nat.reduceLT,Nat.reduceAdd,Nat.reduceBEq,Int.reduceAdd,Int.reduceSub,Int.reduceLT,Int.reduceLE,Int.reduceEq,Int.reduceNeg,↓reduceIte,reduceCtorEq,List.replicate,c6l1]
  all_goals try (exfalso;omega)
  obtain ⟨H4,hH4⟩:∃ H4,H4=H3++91::(([116,114,101,97,100,108,105,110,103]:List UInt8)++93::10::keysTo td 1 td.length):=⟨_,rfl⟩
  have hl4:H4.length≤120000:=by rw[hH4];simp only[List.length_append,List.length_cons,List.length_nil];omega
  refine list_w w (n+1) hC 0 (.ptr 1 0) _ H3 [116,114,101,97,100,108,105,110,103] td 1 (by omega) k2 (.inr rfl) (by omega) (by decide) fun q2=>?_
  rw[← hH4]
  simp (disch:=first|omega|assumption|exact bd (by with_unfolding_all rfl)|exact Or.inl rfl|exact Or.inl trivial|exact okL_map _ (fun _=>rfl) _|(simp only[VVlen]<;>omega)|fail) only[O1,WA,slotsL,opdsA,Nat.reduceEqDiff,Nat.reduceLT,Nat.reduceAdd,Nat.reduceBEq,Int.reduceAdd,Int.reduceSub,Int.reduceLT,Int.reduceLE,Int.reduceEq,Int.reduceNeg,↓reduceIte,reduceCtorEq,List.replicate]
  obtain ⟨H5,hH5⟩:∃ H5,H5=H4++91::(([119,97,114,112]:List UInt8)++93::10::keysTo wp 0 wp.length):=⟨_,rfl⟩
  have hl5:H5.length≤140000:=by rw[hH5];simp only[List.length_append,List.length_cons,List.length_nil];omega
  refine list_w w (n+1) hC q2 (.ptr 1 0) _ H4 [119,97,114,112] wp 0 (by omega) k3 (.inr rfl) (by omega) (by decide) fun q3=>?_
  rw[← hH5]
  simp (disch:=first|omega|assumption|exact bd (by with_unfolding_all rfl)|exact Or.inl rfl|exact Or.inl trivial|exact okL_map _ (fun _=>rfl) _|(simp only[VVlen]<;>omega)|fail) only[O1,WA,slotsL,opdsA,Nat.reduceEqDiff,Nat.reduceLT,Nat.reduceAdd,Nat.reduceBEq,Int.reduceAdd,Int.reduceSub,Int.reduceLT,Int.reduceLE,Int.reduceEq,Int.reduceNeg,↓reduceIte,reduceCtorEq,List.replicate]
  obtain ⟨H6,hH6⟩:∃ H6,H6=H5++91::(([119,101,102,116]:List UInt8)++93::10::keysTo wf 0 wf.length):=⟨_,rfl⟩
  have hl6:H6.length≤160000:=by rw[hH6];simp only[List.length_append,List.length_cons,List.length_nil];omega
  refine list_w w (n+1) hC q3 (.ptr 1 0) _ H5 [119,101,102,116] wf 0 (by omega) k4 (.inr rfl) (by omega) (by decide) fun q4=>?_
  rw[← hH6]
  repeat' (first|(simp (disch:=first|omega|assumption|exact bd (by with_unfolding_all rfl)|exact Or.inl rfl|exact Or.inl trivial|exact okL_map _ (fun _=>rfl) _|(simp only[VVlen]<;>omega)|fail) only[O1,WA,slotsL,opdsA,Nat.reduceEqDiff,Nat.reduceLT,Nat.reduceAdd,Nat.reduceBEq,Int.reduceAdd,Int.reduceSub,Int.reduceLT,Int.reduceLE,Int.reduceEq,Int.reduceNeg,↓reduceIte,reduceCtorEq,List.replicate])|apply gC_drawW|((first|apply gI_dec|apply gG_dec|apply gPG_dec|apply gI_var|apply gG_var|apply gPG_var)<;>intro _))
  have hz:=mk_size H6
  refine string_w w (n+4) hC 1 (q4+2) (.ptr 1 0) ⟨H6.toArray⟩ (by rw[hz];exact ag1 ..) (ag2 ..) (Nat.zero_le _) (Nat.zero_le _) (by omega) fun st' hst=>?_
  repeat' (first|(simp (disch:=first|omega|assumption|exact bd (by with_unfolding_all rfl)|exact Or.inl rfl|exact Or.inl trivial|exact okL_map _ (fun _=>rfl) _|(simp only[VVlen]<;>omega)|fail) only[O1,WA,slotsL,opdsA,Nat.reduceEqDiff,Nat.reduceLT,Nat.reduceAdd,Nat.reduceBEq,Int.reduceAdd,Int.reduceSub,Int.reduceLT,Int.reduceLE,Int.reduceEq,Int.reduceNeg,↓reduceIte,reduceCtorEq,List.replicate])|apply gC_drawW|((first|apply gI_dec|apply gG_dec|apply gPG_dec|apply gI_var|apply gG_var|apply gPG_var)<;>intro _))
  have hfin:TX=H6:=by
   rw[ht,hH6,hH5,hH4,hH3,hH2,hH1]
   simp only[bodyF,List.append_assoc,List.cons_append,List.nil_append]
  rw[hfin]
  exact weak_flat rfl h0 hst
 have d1:=fun st=>itoa_s w (n+4) st ((x:Int)+1) (by omega) (by omega)
 have a3:=Lib.itoa_length_le ((x:Int)+1) (by omega) (by omega)
 have e:tieTo B t s (x+1)=tieTo B t s x++(Lib.itoa ((x:Int)+1)++61::(join 44 (upL B t x s)++ [10])):=rfl
 have hjl:=join_upL_len B t x s (by omega)
 have hul:=upL_len B t x s
 obtain ⟨G,hG⟩:∃ G,G=H2++tieTo B t s x:=⟨_,rfl⟩
 have e2:H2++tieTo B t s (x+1)=G++(Lib.itoa ((x:Int)+1)++61::(join 44 (upL B t x s)++ [10])):=by rw[e,← List.append_assoc,hG]
 rw[← hG] at hgl ⊢
 have hj:=join_s w (n+4) ⟨[],0,0⟩ 2 (by decide) (upL B t x s) [44] (by omega) (by rw[join_one];omega)
 rw[join_one] at hj
 have hsn:∀ st:VSt,aget st.own 3=some (.gro 9 1 false ((upL B t x s).map sD))→snapL st.own [.gr 2 3 (upL B t x s).length,.sc (.string ⟨#[44]⟩)]=some [.sl 2 (upL B t x s).length ((upL B t x s).map sD),.sc (.string ⟨#[44]⟩)]:=fun st h=>by
  have e:snapV st.own (.gr 2 3 (upL B t x s).length)=some (.sl 2 (upL B t x s).length ((upL B t x s).map sD)):=snap_grD h (by rw[List.length_map])
  show (snapV st.own (.gr 2 3 (upL B t x s).length)).bind _=_
  rw[e]
  rfl
 generalize Lib.itoa ((x:Int)+1)=A at*
 generalize hJ:join 44 (upL B t x s)=J at*
 simp (disch:=first|omega|assumption|exact bd (by with_unfolding_all rfl)|exact Or.inl rfl|exact Or.inl trivial|exact okL_map _ (fun _=>rfl) _|(simp only[VVlen]<;>omega)|fail) only[O1,WA,slotsL,opdsA,Nat.reduceEqDiff,Nat.reduceLT,Nat.reduceAdd,Nat.reduceBEq,Int.reduceAdd,Int.reduceSub,Int.reduceLT,Int.reduceLE,Int.reduceEq,Int.reduceNeg,↓reduceIte,reduceCtorEq,List.replicate,c6l1]
 all_goals try (exfalso;omega)
 refine write_inner w n hC h0 nm s t x th td B wp wf b1 b2 bL hlt G ?_
 simp (disch:=first|omega|assumption|exact bd (by with_unfolding_all rfl)|exact Or.inl rfl|exact Or.inl trivial|exact okL_map _ (fun _=>rfl) _|(simp only[VVlen]<;>omega)|fail) only[O1,WA,slotsL,opdsA,Nat.reduceEqDiff,Nat.reduceLT,Nat.reduceAdd,Nat.reduceBEq,Int.reduceAdd,Int.reduceSub,Int.reduceLT,Int.reduceLE,Int.reduceEq,Int.reduceNeg,↓reduceIte,reduceCtorEq,List.replicate]
 refine callV_flat (by rw[hC];exact d1 _) ?_
 simp (disch:=first|omega|assumption|exact bd (by with_unfolding_all rfl)|exact Or.inl rfl|exact Or.inl trivial|exact okL_map _ (fun _=>rfl) _|(simp only[VVlen]<;>omega)|fail) only[O1,WA,slotsL,opdsA,Nat.reduceEqDiff,Nat.reduceLT,Nat.reduceAdd,Nat.reduceBEq,Int.reduceAdd,Int.reduceSub,Int.reduceLT,Int.reduceLE,Int.reduceEq,Int.reduceNeg,↓reduceIte,reduceCtorEq,List.replicate,cat_l]
 all_goals try (exfalso;omega)
 refine callV_flat (by rw[hC];exact (VSpec.ofO hj).flat rfl (hsn _ rfl)) ?_
 simp (disch:=first|omega|assumption|exact bd (by with_unfolding_all rfl)|exact Or.inl rfl|exact Or.inl trivial|exact okL_map _ (fun _=>rfl) _|(simp only[VVlen]<;>omega)|fail) only[O1,WA,slotsL,opdsA,Nat.reduceEqDiff,Nat.reduceLT,Nat.reduceAdd,Nat.reduceBEq,Int.reduceAdd,Int.reduceSub,Int.reduceLT,Int.reduceLE,Int.reduceEq,Int.reduceNeg,↓reduceIte,reduceCtorEq,List.replicate,cat_l,List.append_assoc]
 all_goals try (exfalso;omega)
 refine wStr_w w (n+2) hC 1 2 (.ptr 1 0) G _ rfl rfl (.inr rfl) (Nat.zero_le _) (Nat.zero_le _) (by decide) (Nat.ne_of_beq_eq_false rfl) ?_ ?_
 ·simp only[List.length_append,List.length_cons,List.length_nil];omega
 simp (disch:=first|omega|assumption|exact bd (by with_unfolding_all rfl)|exact Or.inl rfl|exact Or.inl trivial|exact okL_map _ (fun _=>rfl) _|(simp only[VVlen]<;>omega)|fail) only[O1,WA,slotsL,opdsA,Nat.reduceEqDiff,Nat.reduceLT,Nat.reduceAdd,Nat.reduceBEq,Int.reduceAdd,Int.reduceSub,Int.reduceLT,Int.reduceLE,Int.reduceEq,Int.reduceNeg,↓reduceIte,reduceCtorEq,List.replicate]
 refine ⟨t - (x+1),_,_,by omega,weak_to [(4,2),(1,1),(0,0)] 3 h0 rfl rfl rfl rfl,x+1,rfl,hlt,rfl,?_⟩
 rw[e2]
 simp only[List.length_append]
 rfl
end
set_option maxHeartbeats 4000000
theorem sameFl_self (nm:List UInt8) (sh tr:Int) (th td:List Int) (gw gh:Int) (B:List Bool) (wp wf:List Int):sameFl nm sh tr th td gw gh B wp wf nm sh tr th td gw gh B wp wf=true:=by
 simp[sameFl,sameD,sameG]
theorem fwrites_walk (w:World) {C:Ctx} (hC:C.E=EN w 6) (h0:C.w0.nx=0) (nm:List UInt8) (sh tr:Int) (th td:List Int) (gw gh:Int) (B:List Bool) (wp wf:List Int) (nm':List UInt8) (sh' tr':Int) (th' td':List Int) (gw' gh':Int) (B':List Bool) (wp' wf':List Int) (T:List UInt8) (Te ce:Int) (sb:Bool)
  (g1:VSpec (EN w 6) 4 [flV nm sh tr th td gw gh B wp wf] (.sc (.bool false)) ⟨[],0,0⟩)
  (g2:VSpec (EN w 6) 4 [flV nm' sh' tr' th' td' gw' gh' B' wp' wf'] (.sc (.bool false)) ⟨[],0,0⟩)
  (tw:VSpec (EN w 6) 5 [flV nm sh tr th td gw gh B wp wf] (flV nm sh tr th td gw gh B wp wf) ⟨[],0,0⟩)
  (w1:VSpec (EN w 6) 6 [flV nm sh tr th td gw gh B wp wf] (.tup [strV T,iN Te]) ⟨[],0,0⟩)
  (w2:VSpec (EN w 6) 7 [flV nm sh tr th td gw gh B wp wf] (.tup [strV T,iN Te]) ⟨[],0,0⟩)
  (k1:VSpec (EN w 6) 8 [flV nm sh tr th td gw gh B wp wf] (iN ce) ⟨[],0,0⟩)
  (k2:VSpec (EN w 6) 9 [flV nm sh tr th td gw gh B wp wf] (iN ce) ⟨[],0,0⟩)
  (s1:VSpec (EN w 6) 10 [flV nm sh tr th td gw gh B wp wf,flV nm' sh' tr' th' td' gw' gh' B' wp' wf'] (.sc (.bool sb)) ⟨[],0,0⟩)
  (s2:VSpec (EN w 6) 11 [flV nm sh tr th td gw gh B wp wf,flV nm' sh' tr' th' td' gw' gh' B' wp' wf'] (.sc (.bool sb)) ⟨[],0,0⟩)
  (s3:VSpec (EN w 6) 11 [flV nm sh tr th td gw gh B wp wf,flV nm sh tr th td gw gh B wp wf] (.sc (.bool true)) ⟨[],0,0⟩):
  gC C c3.code [] (vargs 0 [flV nm sh tr th td gw gh B wp wf,flV nm' sh' tr' th' td' gw' gh' B' wp' wf']) ⟨[],0,0⟩ (RetV C c3.res (.sc (.bool true)) ⟨[],0,0⟩):=by
 simp (disch:=first|omega|assumption|exact bd (by with_unfolding_all rfl)|exact Or.inl rfl|exact Or.inl trivial|exact okL_map _ (fun _=>rfl) _|(simp only[VVlen]<;>omega)|fail) only[O1,WA,slotsL,opdsA,Nat.reduceEqDiff,Nat.reduceLT,Nat.reduceAdd,Nat.reduceBEq,Int.reduceAdd,Int.reduceSub,Int.reduceLT,Int.reduceLE,Int.reduceEq,Int.reduceNeg,↓reduceIte,reduceCtorEq,List.replicate,c3]
 refine callV_flat (by rw[hC];exact g1.flat rfl rfl) ?_
 simp (disch:=first|omega|assumption|exact bd (by with_unfolding_all rfl)|exact Or.inl rfl|exact Or.inl trivial|exact okL_map _ (fun _=>rfl) _|(simp only[VVlen]<;>omega)|fail) only[O1,WA,slotsL,opdsA,Nat.reduceEqDiff,Nat.reduceLT,Nat.reduceAdd,Nat.reduceBEq,Int.reduceAdd,Int.reduceSub,Int.reduceLT,Int.reduceLE,Int.reduceEq,Int.reduceNeg,↓reduceIte,reduceCtorEq,List.replicate]
 refine callV_flat (by rw[hC];exact g2.flat rfl rfl) ?_
 simp (disch:=first|omega|assumption|exact bd (by with_unfolding_all rfl)|exact Or.inl rfl|exact Or.inl trivial|exact okL_map _ (fun _=>rfl) _|(simp only[VVlen]<;>omega)|fail) only[O1,WA,slotsL,opdsA,Nat.reduceEqDiff,Nat.reduceLT,Nat.reduceAdd,Nat.reduceBEq,Int.reduceAdd,Int.reduceSub,Int.reduceLT,Int.reduceLE,Int.reduceEq,Int.reduceNeg,↓reduceIte,reduceCtorEq,List.replicate]
 refine callV_fin (by rw[hC];exact tw) rfl rfl (fun _=>rfl) ?_
 simp (disch:=first|omega|assumption|exact bd (by with_unfolding_all rfl)|exact Or.inl rfl|exact Or.inl trivial|exact okL_map _ (fun _=>rfl) _|(simp only[VVlen]<;>omega)|fail) only[O1,WA,slotsL,opdsA,Nat.reduceEqDiff,Nat.reduceLT,Nat.reduceAdd,Nat.reduceBEq,Int.reduceAdd,Int.reduceSub,Int.reduceLT,Int.reduceLE,Int.reduceEq,Int.reduceNeg,↓reduceIte,reduceCtorEq,List.replicate]
 refine callV_flat (by rw[hC];exact w1.flat rfl rfl) ?_
 simp (disch:=first|omega|assumption|exact bd (by with_unfolding_all rfl)|exact Or.inl rfl|exact Or.inl trivial|exact okL_map _ (fun _=>rfl) _|(simp only[VVlen]<;>omega)|fail) only[O1,WA,slotsL,opdsA,Nat.reduceEqDiff,Nat.reduceLT,Nat.reduceAdd,Nat.reduceBEq,Int.reduceAdd,Int.reduceSub,Int.reduceLT,Int.reduceLE,Int.reduceEq,Int.reduceNeg,↓reduceIte,reduceCtorEq,List.replicate]
 refine callV_flat (by rw[hC];exact w2.flat rfl rfl) ?_
 simp (disch:=first|omega|assumption|exact bd (by with_unfolding_all rfl)|exact Or.inl rfl|exact Or.inl trivial|exact okL_map _ (fun _=>rfl) _|(simp only[VVlen]<;>omega)|fail) only[O1,WA,slotsL,opdsA,Nat.reduceEqDiff,Nat.reduceLT,Nat.reduceAdd,Nat.reduceBEq,Int.reduceAdd,Int.reduceSub,Int.reduceLT,Int.reduceLE,Int.reduceEq,Int.reduceNeg,↓reduceIte,reduceCtorEq,List.replicate]
 refine call0_of (by rw[hC];exact k1.flat rfl rfl) ?_
 simp (disch:=first|omega|assumption|exact bd (by with_unfolding_all rfl)|exact Or.inl rfl|exact Or.inl trivial|exact okL_map _ (fun _=>rfl) _|(simp only[VVlen]<;>omega)|fail) only[O1,WA,slotsL,opdsA,Nat.reduceEqDiff,Nat.reduceLT,Nat.reduceAdd,Nat.reduceBEq,Int.reduceAdd,Int.reduceSub,Int.reduceLT,Int.reduceLE,Int.reduceEq,Int.reduceNeg,↓reduceIte,reduceCtorEq,List.replicate]
 refine call0_of (by rw[hC];exact k2.flat rfl rfl) ?_
 simp (disch:=first|omega|assumption|exact bd (by with_unfolding_all rfl)|exact Or.inl rfl|exact Or.inl trivial|exact okL_map _ (fun _=>rfl) _|(simp only[VVlen]<;>omega)|fail) only[O1,WA,slotsL,opdsA,Nat.reduceEqDiff,Nat.reduceLT,Nat.reduceAdd,Nat.reduceBEq,Int.reduceAdd,Int.reduceSub,Int.reduceLT,Int.reduceLE,Int.reduceEq,Int.reduceNeg,↓reduceIte,reduceCtorEq,List.replicate,eq_l,mk_inj]
 refine call0_of (by rw[hC];exact s1.flat rfl rfl) ?_
 simp (disch:=first|omega|assumption|exact bd (by with_unfolding_all rfl)|exact Or.inl rfl|exact Or.inl trivial|exact okL_map _ (fun _=>rfl) _|(simp only[VVlen]<;>omega)|fail) only[O1,WA,slotsL,opdsA,Nat.reduceEqDiff,Nat.reduceLT,Nat.reduceAdd,Nat.reduceBEq,Int.reduceAdd,Int.reduceSub,Int.reduceLT,Int.reduceLE,Int.reduceEq,Int.reduceNeg,↓reduceIte,reduceCtorEq,List.replicate]
 refine call0_of (by rw[hC];exact s2.flat rfl rfl) ?_
 simp (disch:=first|omega|assumption|exact bd (by with_unfolding_all rfl)|exact Or.inl rfl|exact Or.inl trivial|exact okL_map _ (fun _=>rfl) _|(simp only[VVlen]<;>omega)|fail) only[O1,WA,slotsL,opdsA,Nat.reduceEqDiff,Nat.reduceLT,Nat.reduceAdd,Nat.reduceBEq,Int.reduceAdd,Int.reduceSub,Int.reduceLT,Int.reduceLE,Int.reduceEq,Int.reduceNeg,↓reduceIte,reduceCtorEq,List.replicate,eqB_b,beq_self_eq_true]
 refine callV_flat (by rw[hC];exact s3.flat rfl rfl) ?_
 repeat' (first|(simp (disch:=first|omega|assumption|exact bd (by with_unfolding_all rfl)|exact Or.inl rfl|exact Or.inl trivial|exact okL_map _ (fun _=>rfl) _|(simp only[VVlen]<;>omega)|fail) only[O1,WA,slotsL,opdsA,Nat.reduceEqDiff,Nat.reduceLT,Nat.reduceAdd,Nat.reduceBEq,Int.reduceAdd,Int.reduceSub,Int.reduceLT,Int.reduceLE,Int.reduceEq,Int.reduceNeg,↓reduceIte,reduceCtorEq,List.replicate])|apply gC_drawW|((first|apply gI_dec|apply gG_dec|apply gPG_dec|apply gI_var|apply gG_var|apply gPG_var)<;>intro _))
 exact weak_flat rfl h0 rfl
theorem fwrites_g (w:World) (nm:List UInt8) (sh tr:Int) (th td:List Int) (gw gh:Int) (B:List Bool) (wp wf:List Int) (nm':List UInt8) (sh' tr':Int) (th' td':List Int) (gw' gh':Int) (B':List Bool) (wp' wf':List Int)
  (h1:th.length≤140737488351232) (h2:td.length≤140737488351232) (hB:B.length≤140737488351232) (h3:wp.length≤140737488351232) (h4:wf.length≤140737488351232) (h5:nm.length≤140737488351232)
  (h1':th'.length≤140737488351232) (h2':td'.length≤140737488351232) (hB':B'.length≤140737488351232) (h3':wp'.length≤140737488351232) (h4':wf'.length≤140737488351232) (h5':nm'.length≤140737488351232) {C:Ctx} (hC:C.E=EN w 6) (h0:C.w0.nx=0):
  gC C c3.code [] (vargs 0 [flV nm sh tr th td gw gh B wp wf,flV nm' sh' tr' th' td' gw' gh' B' wp' wf']) ⟨[],0,0⟩ (RetV C c3.res (.sc (.bool true)) ⟨[],0,0⟩):=by
 have g1:=great19_p w 3 nm sh tr th td gw gh B wp wf h1 h2 hB h3 h4 h5
 have g2:=great19_p w 3 nm' sh' tr' th' td' gw' gh' B' wp' wf' h1' h2' hB' h3' h4' h5'
 by_cases q1:greatF nm th td B wp wf=true
 ·rw[q1] at g1
  simp (disch:=first|omega|assumption|exact bd (by with_unfolding_all rfl)|exact Or.inl rfl|exact Or.inl trivial|exact okL_map _ (fun _=>rfl) _|(simp only[VVlen]<;>omega)|fail) only[O1,WA,slotsL,opdsA,Nat.reduceEqDiff,Nat.reduceLT,Nat.reduceAdd,Nat.reduceBEq,Int.reduceAdd,Int.reduceSub,Int.reduceLT,Int.reduceLE,Int.reduceEq,Int.reduceNeg,↓reduceIte,reduceCtorEq,List.replicate,c3]
  refine callV_flat (by rw[hC];exact g1.flat rfl rfl) ?_
  simp (disch:=first|omega|assumption|exact bd (by with_unfolding_all rfl)|exact Or.inl rfl|exact Or.inl trivial|exact okL_map _ (fun _=>rfl) _|(simp only[VVlen]<;>omega)|fail) only[O1,WA,slotsL,opdsA,Nat.reduceEqDiff,Nat.reduceLT,Nat.reduceAdd,Nat.reduceBEq,Int.reduceAdd,Int.reduceSub,Int.reduceLT,Int.reduceLE,Int.reduceEq,Int.reduceNeg,↓reduceIte,reduceCtorEq,List.replicate]
  exact weak_flat rfl h0 rfl
 rw[Bool.not_eq_true] at q1
 by_cases q2:greatF nm' th' td' B' wp' wf'=true
 ·rw[q1] at g1
  rw[q2] at g2
  simp (disch:=first|omega|assumption|exact bd (by with_unfolding_all rfl)|exact Or.inl rfl|exact Or.inl trivial|exact okL_map _ (fun _=>rfl) _|(simp only[VVlen]<;>omega)|fail) only[O1,WA,slotsL,opdsA,Nat.reduceEqDiff,Nat.reduceLT,Nat.reduceAdd,Nat.reduceBEq,Int.reduceAdd,Int.reduceSub,Int.reduceLT,Int.reduceLE,Int.reduceEq,Int.reduceNeg,↓reduceIte,reduceCtorEq,List.replicate,c3]
  refine callV_flat (by rw[hC];exact g1.flat rfl rfl) ?_
  simp (disch:=first|omega|assumption|exact bd (by with_unfolding_all rfl)|exact Or.inl rfl|exact Or.inl trivial|exact okL_map _ (fun _=>rfl) _|(simp only[VVlen]<;>omega)|fail) only[O1,WA,slotsL,opdsA,Nat.reduceEqDiff,Nat.reduceLT,Nat.reduceAdd,Nat.reduceBEq,Int.reduceAdd,Int.reduceSub,Int.reduceLT,Int.reduceLE,Int.reduceEq,Int.reduceNeg,↓reduceIte,reduceCtorEq,List.replicate]
  refine callV_flat (by rw[hC];exact g2.flat rfl rfl) ?_
  simp (disch:=first|omega|assumption|exact bd (by with_unfolding_all rfl)|exact Or.inl rfl|exact Or.inl trivial|exact okL_map _ (fun _=>rfl) _|(simp only[VVlen]<;>omega)|fail) only[O1,WA,slotsL,opdsA,Nat.reduceEqDiff,Nat.reduceLT,Nat.reduceAdd,Nat.reduceBEq,Int.reduceAdd,Int.reduceSub,Int.reduceLT,Int.reduceLE,Int.reduceEq,Int.reduceNeg,↓reduceIte,reduceCtorEq,List.replicate]
  exact weak_flat rfl h0 rfl
 rw[Bool.not_eq_true] at q2
 rw[q1] at g1
 rw[q2] at g2
 unfold greatF at q1
 simp only[Bool.or_eq_false_iff,decide_eq_false_iff_not] at q1
 exact fwrites_walk w hC h0 nm sh tr th td gw gh B wp wf nm' sh' tr' th' td' gw' gh' B' wp' wf' _ _ _ _ g1 g2
  (twin19_p w 3 nm sh tr th td gw gh B wp wf (by omega) (by omega) (by omega) (by omega) (by omega))
  (write_p w 0 nm sh tr th td gw gh B wp wf h1 h2 hB h3 h4 (by omega))
  (rwrite_p w 2 nm sh tr th td gw gh B wp wf h1 h2 hB h3 h4 (by omega))
  (fcheck_p w 2 nm sh tr th td gw gh B wp wf h1 h2 hB h3 h4 (by omega))
  (check19_p w 3 nm sh tr th td gw gh B wp wf h1 h2 hB h3 h4 (by omega))
  (fsame_p w 2 nm sh tr th td gw gh B wp wf nm' sh' tr' th' td' gw' gh' B' wp' wf' h1 h2 hB h1' h2' hB' h3 h4 h3' h4')
  (same19_p w 2 nm sh tr th td gw gh B wp wf nm' sh' tr' th' td' gw' gh' B' wp' wf' h1 h2 hB h1' h2' hB' h3 h4 h3' h4')
  (by have:=same19_p w 2 nm sh tr th td gw gh B wp wf nm sh tr th td gw gh B wp wf h1 h2 hB h1 h2 hB h3 h4 h3 h4;rw[sameFl_self] at this;exact this)
end Go.Proofs.YtelgheeinnednaaDoor
namespace Go.Proofs.YtelgheeinnednaaDoor
open Go Go.Itp
open Go.ChangeShapes Go.WideShapes Go.ChangeAt Go.RowKit
set_option linter.unusedVariables false
set_option maxRecDepth 100000
set_option maxHeartbeats 4000000
theorem reach_lt:reachBytes≤140737488351232:=by decide
theorem cellsI:Tryd.prog.cellsOf 3=1:=by kernel_rfl
theorem bytesI:Tryd.prog.bytesOf 3=8:=by kernel_rfl
theorem open_file {H:Type} {enc:TypeId × Value→H} {W:World} {b:Nat} {held:Bool} {v:Value} {d:DataW H} {ps:List MemPlace} (hv:Value.okWide Tryd.prog W .any b 29 v) (h:DataW.Trod enc Tryd.prog W 0 (fun _=>true) held 29 v d ps)
  (hsz:∀ n ∈ d.weights Tryd.prog 29,n≤reachBytes):
  ∃ (nm:List UInt8) (sh tr:Int) (th td:List Int) (gw gh:Int) (B:List Bool) (wp wf:List Int),VRep (wOld (oldOf W)) (flV nm sh tr th td gw gh B wp wf) v∧ids 0 v= []∧th.length≤reachBytes∧td.length≤reachBytes∧B.length≤reachBytes∧wp.length≤reachBytes∧wf.length≤reachBytes∧nm.length≤reachBytes:=by
 obtain ⟨l,rfl,hl,ha⟩:=open_cells Tryd.underlying29 hv
 rw[show Tryd.prog.cellsOf 29=10 by kernel_rfl] at hl
 obtain ⟨a0,a1,a2,a3,a4,a5,a6,a7,a8,a9,rfl⟩:∃ a0 a1 a2 a3 a4 a5 a6 a7 a8 a9,l= [a0,a1,a2,a3,a4,a5,a6,a7,a8,a9]:=by
  rcases l with _|⟨a0,_|⟨a1,_|⟨a2,_|⟨a3,_|⟨a4,_|⟨a5,_|⟨a6,_|⟨a7,_|⟨a8,_|⟨a9,_|⟨x,l⟩⟩⟩⟩⟩⟩⟩⟩⟩⟩⟩<;>simp at hl
  exact ⟨_,_,_,_,_,_,_,_,_,_,rfl⟩
 obtain ⟨n,hn⟩:=h
 obtain ⟨m,ys,hm,hw⟩:=trod_parts Tryd.underlying29 hn
 obtain ⟨y0,s1,p0,hm1,rfl⟩:=mapM_cons_some hm
 obtain ⟨y1,s2,p1,hm2,rfl⟩:=mapM_cons_some hm1
 obtain ⟨y2,s3,p2,hm3,rfl⟩:=mapM_cons_some hm2
 obtain ⟨y3,s4,p3,hm4,rfl⟩:=mapM_cons_some hm3
 simp only[List.mapM_nil,Option.pure_def,Option.some.injEq] at hm4
 subst hm4
 have p0:DataW.trod enc Tryd.prog W 0 (fun _=>true) held m 9 [a0]=some y0:=p0
 have p1:DataW.trod enc Tryd.prog W 0 (fun _=>true) held m 27 [a1,a2,a3,a4,a5,a6,a7]=some y1:=p1
 have p2:DataW.trod enc Tryd.prog W 0 (fun _=>true) held m 22 [a8]=some y2:=p2
 have p3:DataW.trod enc Tryd.prog W 0 (fun _=>true) held m 22 [a9]=some y3:=p3
 rw[hw] at hsz
 simp only[List.map_cons,List.map_nil,DataW.weightsEach,List.mem_append] at hsz
 obtain ⟨m',ys,hm,hw⟩:=trod_parts Tryd.underlying27 p1
 obtain ⟨z0,s1,q0,hm1,rfl⟩:=mapM_cons_some hm
 obtain ⟨z1,s2,q1,hm2,rfl⟩:=mapM_cons_some hm1
 obtain ⟨z2,s3,q2,hm3,rfl⟩:=mapM_cons_some hm2
 obtain ⟨z3,s4,q3,hm4,rfl⟩:=mapM_cons_some hm3
 obtain ⟨z4,s5,q4,hm5,rfl⟩:=mapM_cons_some hm4
 simp only[List.mapM_nil,Option.pure_def,Option.some.injEq] at hm5
 subst hm5
 have q0:DataW.trod enc Tryd.prog W 0 (fun _=>true) held m' 3 [a1]=some z0:=q0
 have q1:DataW.trod enc Tryd.prog W 0 (fun _=>true) held m' 3 [a2]=some z1:=q1
 have q2:DataW.trod enc Tryd.prog W 0 (fun _=>true) held m' 22 [a3]=some z2:=q2
 have q3:DataW.trod enc Tryd.prog W 0 (fun _=>true) held m' 22 [a4]=some z3:=q3
 have q4:DataW.trod enc Tryd.prog W 0 (fun _=>true) held m' 25 [a5,a6,a7]=some z4:=q4
 have hsz1:∀ n ∈ y1.1.weights Tryd.prog 27,n≤reachBytes:=fun n hn=>hsz n (.inr (.inl hn))
 rw[hw] at hsz1
 simp only[List.map_cons,List.map_nil,DataW.weightsEach,List.mem_append] at hsz1
 obtain ⟨m2,ys,hm,hw⟩:=trod_parts Tryd.underlying25 q4
 obtain ⟨u0,s1,r0,hm1,rfl⟩:=mapM_cons_some hm
 obtain ⟨u1,s2,r1,hm2,rfl⟩:=mapM_cons_some hm1
 obtain ⟨u2,s3,r2,hm3,rfl⟩:=mapM_cons_some hm2
 simp only[List.mapM_nil,Option.pure_def,Option.some.injEq] at hm3
 subst hm3
 have r0:DataW.trod enc Tryd.prog W 0 (fun _=>true) held m2 3 [a5]=some u0:=r0
 have r1:DataW.trod enc Tryd.prog W 0 (fun _=>true) held m2 3 [a6]=some u1:=r1
 have r2:DataW.trod enc Tryd.prog W 0 (fun _=>true) held m2 23 [a7]=some u2:=r2
 have hsz2:∀ n ∈ z4.1.weights Tryd.prog 25,n≤reachBytes:=fun n hn=>hsz1 n (.inr (.inr (.inr (.inr (.inl hn)))))
 rw[hw] at hsz2
 simp only[List.map_cons,List.map_nil,DataW.weightsEach,List.mem_append] at hsz2
 obtain ⟨nm,rfl,hnm⟩:=one_str Tryd.underlying9 p0 fun n hn=>hsz n (.inl hn)
 obtain ⟨sh,rfl⟩:=part_int Tryd.underlying3 q0
 obtain ⟨tr,rfl⟩:=part_int Tryd.underlying3 q1
 obtain ⟨gw,rfl⟩:=part_int Tryd.underlying3 r0
 obtain ⟨gh,rfl⟩:=part_int Tryd.underlying3 r1
 obtain ⟨th,k1,i1,b1⟩:=one_ints Tryd.underlying22 Tryd.underlying3 cellsI bytesI q2 (fun n hn=>hsz1 n (.inr (.inr (.inl hn)))) (ha 3 _ rfl)
 obtain ⟨td,k2,i2,b2⟩:=one_ints Tryd.underlying22 Tryd.underlying3 cellsI bytesI q3 (fun n hn=>hsz1 n (.inr (.inr (.inr (.inl hn))))) (ha 4 _ rfl)
 obtain ⟨B,k3,i3,b3⟩:=one_bools Tryd.underlying23 Tryd.underlying4 (by kernel_rfl) (by kernel_rfl) r2 (fun n hn=>hsz2 n (.inr (.inr (.inl hn)))) (ha 7 _ rfl)
 obtain ⟨wp,k4,i4,b4⟩:=one_ints Tryd.underlying22 Tryd.underlying3 cellsI bytesI p2 (fun n hn=>hsz n (.inr (.inr (.inl hn)))) (ha 8 _ rfl)
 obtain ⟨wf,k5,i5,b5⟩:=one_ints Tryd.underlying22 Tryd.underlying3 cellsI bytesI p3 (fun n hn=>hsz n (.inr (.inr (.inr (.inl hn))))) (ha 9 _ rfl)
 refine ⟨nm,sh,tr,th,td,gw,gh,B,wp,wf,?_,?_,b1,b2,b3,b4,b5,hnm⟩
 ·rw[VRep]
  refine ⟨_,rfl,?_⟩
  simp only[VRepL]
  exact ⟨_,_,rfl,.mksc rfl,_,_,rfl,.mksc rfl,_,_,rfl,.mksc rfl,_,_,rfl,k1,_,_,rfl,k2,_,_,rfl,.mksc rfl,_,_,rfl,.mksc rfl,_,_,rfl,k3,_,_,rfl,k4,_,_,rfl,k5,rfl⟩
 ·rw[ids_agg]
  simp only[idsL_cons,i1,i2,i3,i4,i5]
  rfl
def listed:List (String × DataW Unit):= [("math/bits.deBruijn32tab",Rows.laid_math_bits_deBruijn32tab),("math/bits.deBruijn64tab",Rows.laid_math_bits_deBruijn64tab),("internal/strconv.uint64pow10",Rows.laid_internal_strconv_uint64pow10),("unicode/utf8.acceptRanges",Rows.laid_unicode_utf8_acceptRanges),("unicode/utf8.first",Rows.laid_unicode_utf8_first)]
theorem listed_met (os:Os) (args:Array Value):laidMetH Tryd.prog listed ((World.laidAll Tryd.prog os listed).forCall (fun _ _=>0) ⟨#[],args,[]⟩).memory:=by
 rw[MakeChecks.laidMetH_plain _ _ _ (by kernel_rfl)]
 exact laidMet_laidAll _ (by kernel_rfl) (by kernel_rfl)
theorem listed_shaped (os:Os):(World.laidAll Tryd.prog os listed).Shaped Tryd.prog:=World.shaped_of_ZipB (by kernel_rfl) (by kernel_rfl)
theorem stand_ins {l:List TypeId} {t:TypeId} (hall:(l.all fun u=> !Tryd.prog.wantsStandIn u)=true) (h:t ∈ l):Tryd.prog.wantsStandIn t=false:=by
 have:=List.all_eq_true.1 hall t h
 simpa using this
theorem fwrites_lifted (os:Os) (started:os.Started) (H:Type) (enc:TypeId × Value→H):
  ReturnsInHanded {} Tryd.checked os 3 .any (fun w args=>(Rows.fileWritesSpec.pre enc Tryd.prog Tryd.f3 [] false w args∧laidMetH Tryd.prog listed w)∧sizedMet enc Tryd.prog Tryd.f3 (OpenSpec.ofChange Rows.fileWritesSpec) false w args)
   (Rows.fileWritesSpec.post enc Tryd.prog Tryd.f3 false true false false):=by
 refine returnsInHanded_of_change_and (C:=Tryd.checked) (X:=fun w _=>laidMetH Tryd.prog listed w) (fun _ _ _ hh h=>h.of_heap hh) own started (by kernel_rfl) Tryd.func3
  (ChangeSpec.witness_shaped (enc:=enc) (C:=Tryd.checked) (os:=os) (X:=fun w _=>laidMetH Tryd.prog listed w) false (World.laidAll Tryd.prog os listed) #[.agg #[.string .empty,.int .i64 0,.int .i64 0,.slice none 0 0,.slice none 0 0,.int .i64 0,.int .i64 0,.slice none 0 0,.slice none 0 0,.slice none 0 0],.agg #[.string .empty,.int .i64 0,.int .i64 0,.slice none 0 0,.slice none 0 0,.int .i64 0,.int .i64 0,.slice none 0 0,.slice none 0 0,.slice none 0 0]] 8 (World.laidAll_os _ _ _) (listed_shaped os) (by kernel_rfl) (by kernel_rfl) (by kernel_rfl) (listed_met os _)) ?_
 intro W base args ds gs before hval0 hW _ hsz0 hL _
 have hval:∀ (j:Nat) t v,Tryd.f3.params[j]? =some t→args[j]? =some v→Value.okWide Tryd.prog W .any base t v:=hval0
 have hW':=hW
 obtain ⟨p,q,hA0,hV,rfl,hfz,hnd⟩:=hW
 have hA:DataW.TrodAll enc Tryd.prog W 0 (fun _=>true) true Tryd.f3.params.toList args.toList ds p:=hA0
 have hsz:(DataW.weightsEach Tryd.prog (Tryd.f3.params.toList++Rows.fileWritesSpec.plain.varTypes Tryd.prog) (ds++gs)).all (· ≤reachBytes)=true:=hsz0
 rw[Tryd.params3] at hA hval hsz
 obtain ⟨v0,vs0,d0,ds0,p0,q0,hargs,rfl,rfl,h0,r0⟩:=trodAll_cons hA
 obtain ⟨v1,vs1,d1,ds1,p1,q1,rfl,rfl,rfl,h1,r1⟩:=trodAll_cons r0
 obtain ⟨rfl,rfl,rfl⟩:=trodAll_nil r1
 obtain rfl:args=#[v0,v1]:=by cases args;simp_all
 have hr:=reach_lt
 obtain ⟨nm0,sh0,tr0,th0,td0,gw0,gh0,B0,wp0,wf0,hv0,hli0,ha0,hb0,hc0,hd0,he0,hf0⟩:=open_file (hval 0 29 v0 rfl rfl) h0 (weights_at (j:=0) hsz rfl rfl)
 obtain ⟨nm1,sh1,tr1,th1,td1,gw1,gh1,B1,wp1,wf1,hv1,hli1,ha1,hb1,hc1,hd1,he1,hf1⟩:=open_file (hval 1 29 v1 rfl rfl) h1 (weights_at (j:=1) hsz rfl rfl)
 have hLm:laidMet Tryd.prog listed W:=by rw[← MakeChecks.laidMetH_plain _ _ _ (by kernel_rfl)];exact hL
 have htab:Tab W:=laid_tab hLm 2 rfl (g:=0) (t:=102) (e:=90) (k:= .u64) (m:=20) (by kernel_rfl) (by kernel_rfl) Tryd.underlying102 Tryd.underlying90 (by kernel_rfl) (by kernel_rfl) rfl
 obtain ⟨s',hbody⟩:=law_v (old:=oldOf W) (rounds:=many) (fns:=fns) (prims:=PR W) (n:=6) (af:=c3) (xs:= [flV nm0 sh0 tr0 th0 td0 gw0 gh0 B0 wp0 wf0,flV nm1 sh1 tr1 th1 td1 gw1 gh1 B1 wp1 wf1]) (xsI:= [v0,v1]) (x:= .bool true) (Nat.le_of_ble_eq_true rfl)
  (by simp only[VRepL];exact ⟨_,_,rfl,hv0,_,_,rfl,hv1,rfl⟩) fun C hC hn=>fwrites_g W nm0 sh0 tr0 th0 td0 gw0 gh0 B0 wp0 wf0 nm1 sh1 tr1 th1 td1 gw1 gh1 B1 wp1 wf1 (by omega) (by omega) (by omega) (by omega) (by omega) (by omega) (by omega) (by omega) (by omega) (by omega) (by omega) (by omega) hC hn
 have hfn:fns 3=some c3:=rfl
 have hrv:ids 0 (.bool true)= []:=rfl
 refine (law_of htab (f:=3) (af:=c3) hfn (xs:= [v0,v1]) (by simp only[idsL_cons,hli0,hli1];rfl) _ hbody hrv).mono fun e W' ⟨he,hbe⟩=>?_
 exact ⟨_,he,law_post hW' rfl rfl (by kernel_rfl) (by kernel_rfl) Tryd.underlying4 hbe⟩
theorem fwrites_over:Rows.FileWritesSaid:=
 OpenClaim.holds_of_wide 3 Tryd.f3 rfl rfl rfl rfl rfl rfl rfl ⟨rfl,rfl,rfl,rfl,rfl⟩ rfl rfl rfl rfl rfl (by kernel_rfl) Tryd.func3 (by kernel_rfl)
  (of_decide_eq_true (by kernel_rfl)) (by unfold Func.isWrapper;first|(rw[if_pos (by decide+kernel)];kernel_rfl)|(rw[if_neg (by decide+kernel)];exact ⟨rfl,rfl⟩))
  (fun os started H enc _=>fwrites_lifted os started H enc)
theorem fwrites_holds:Rows.FileWritesCardSaid:=
 Claim7.holds_tied_plain_at .later [] [.data,.data,.data,.data,.pinned] true _ false
  fwrites_over (fun _ h=>by cases h) (by kernel_rfl) (fun _ h=>by cases h) fileWrites_row_tie rfl ⟨rfl,rfl⟩ (by kernel_rfl) rfl
  (fun f fn hf hfn=>by
   obtain rfl:f=3:=Option.some.inj ((show Tryd.prog.funcNamed "raddle/raddlelaw19.FileWrites"=some 3 by kernel_rfl).symm.trans hf)|>.symm
   obtain rfl:fn=Tryd.f3:=(Option.some.inj (Tryd.func3.symm.trans hfn)).symm
   exact ⟨by kernel_rfl,fun j t ht=>stand_ins (l:= [29,29]) (by kernel_rfl) (by rw[Tryd.params3] at ht;simpa using Array.mem_of_getElem? ht)⟩)
  (by kernel_rfl)
#print axioms fwrites_holds
end Go.Proofs.YtelgheeinnednaaDoor
