/- What is proved: the law KnitlogWhere returns true for every input.
   Texts: E44x, J44w, J44x, J44y.
-/
import Derived.Test.YtgohenjcanfolaaGreatDoorPart6
namespace Go.Proofs.YtgohenjcanfolaaGreatDoor
open Go Go.Itp
set_option maxRecDepth 100000
set_option maxHeartbeats 1000000
set_option linter.unusedSimpArgs false
set_option linter.unusedVariables false
def wrF (z:Nat) (R:List (Bool × List Sti)) (p:Int):Nat→Nat→Nat
 |0,i=>i
 |f+1,i=>if p<(compL z (R.take i)).length then i else wrF z R p f (i+1)
def whereF (c:ChT) (p:Int):Int × Int × Int:=
 if (compF c).2 ≠ 0 then (0,0,(compF c).2) else if p<0∨(compF c).1.length≤p then (0,0,2) else if p=0 then (-1,-1,0) else ((wrF c.1.toNat c.2 p c.2.length 0:Int) - 1,((compF c).1[p.toNat]!).pos,0)
def whV (r:Int × Int × Int):V:= .tup [iN r.1,iN r.2.1,iN r.2.2]
theorem insD_at3 (L:List Ins) (k:Nat) (hk:k<L.length):dload (insD L) (k*7+3) none=some (iN L[k]!.pos):=dload_flat1 (fun a:Ins=>(insC a).map D.sc) 7 L (fun _=>rfl) k 3 hk (by decide)
section
variable (w:World) (n:Nat)
theorem where_p (k:Nat) (hk:k=1∨k=2∨k=0) (zi:Int) (R:List (Bool × List Sti)) (hR:R.length≤140737488351232) (hK:KOKR R) (p:Int):VSpec (EN w (n+12)) 11 [chartV 3 k (zi,R),iN p] (whV (whereF (zi,R) p)) ⟨[],0,0⟩:=by
 have hcp:=compile_p w n 3 k (by decide) hk zi R hR hK
 have hrl:=rowsD_len k R
 unfold whereF
 by_cases e1:(compF (zi,R)).2=0
 case neg=>
  rw[if_pos e1]
  generalize compF (zi,R)=cf at*
  obtain ⟨P,e⟩:=cf
  simp only at e1
  refine vspec_flat rfl rfl (fun _ _=>rfl) (Nat.le_of_ble_eq_true rfl) (oldVals w) rfl fun C hC h0=>?_
  unfold whV
  repeat' (first|(simp (disch:=try exact z0z) only[WA,slotsL,opdsA,Nat.reduceEqDiff,Nat.reduceLT,Nat.reduceAdd,Nat.reduceBEq,Int.reduceAdd,Int.reduceSub,Int.reduceLT,Int.reduceLE,Int.reduceEq,Int.reduceNeg,↓reduceIte,reduceCtorEq,List.replicate,c11])|apply gC_drawW|((first|apply gI_dec|apply gG_dec|apply gPG_dec|apply gI_var|apply gG_var|apply gPG_var)<;>intro _))
  refine callV_fin (by rw[hC];exact hcp) rfl rfl (fun _=>rfl) ?_
  repeat' (first|(simp (disch:=try exact z0z) only[WA,slotsL,opdsA,Nat.reduceEqDiff,Nat.reduceLT,Nat.reduceAdd,Nat.reduceBEq,Int.reduceAdd,Int.reduceSub,Int.reduceLT,Int.reduceLE,Int.reduceEq,Int.reduceNeg,↓reduceIte,reduceCtorEq,List.replicate,e1])|apply gC_drawW|((first|apply gI_dec|apply gG_dec|apply gPG_dec|apply gI_var|apply gG_var|apply gPG_var)<;>intro _))
  exact weak_flat rfl h0 rfl
 rw[if_neg (fun h=>h e1)]
 obtain ⟨z,rfl⟩:∃ z:Nat,zi=z:=⟨zi.toNat,by
  have:chkC (zi,R)=0:=by
   unfold compF at e1
   by_cases h:chkC (zi,R)=0
   ·exact h
   ·rw[if_pos h] at e1;exact absurd e1 h
  have:=chkC_ok this
  simp only at this
  omega⟩
 obtain ⟨c1,c2,c3,c4,c5⟩:=compF_ok e1
 have htk:=fun i=>compF_take e1 i
 have hck:=chkC_ok c1
 simp only at hck
 rw[show compF ((z:Int),R)=(compL z R,0) from Prod.ext c5 e1] at hcp ⊢
 simp only[Int.toNat_natCast]
 have hil:=insD_len (compL z R)
 by_cases e2:p<0
 ·rw[if_pos (.inl e2)]
  refine vspec_flat rfl rfl (fun _ _=>rfl) (Nat.le_of_ble_eq_true rfl) (oldVals w) rfl fun C hC h0=>?_
  unfold whV
  generalize compL z R=P at*
  repeat' (first|(simp (disch:=try exact z0z) only[WA,slotsL,opdsA,Nat.reduceEqDiff,Nat.reduceLT,Nat.reduceAdd,Nat.reduceBEq,Int.reduceAdd,Int.reduceSub,Int.reduceLT,Int.reduceLE,Int.reduceEq,Int.reduceNeg,↓reduceIte,reduceCtorEq,List.replicate,c11])|apply gC_drawW|((first|apply gI_dec|apply gG_dec|apply gPG_dec|apply gI_var|apply gG_var|apply gPG_var)<;>intro _))
  refine callV_fin (by rw[hC];exact hcp) rfl rfl (fun _=>rfl) ?_
  repeat' (first|(simp (disch:=try exact z0z) only[WA,slotsL,opdsA,Nat.reduceEqDiff,Nat.reduceLT,Nat.reduceAdd,Nat.reduceBEq,Int.reduceAdd,Int.reduceSub,Int.reduceLT,Int.reduceLE,Int.reduceEq,Int.reduceNeg,↓reduceIte,reduceCtorEq,List.replicate])|apply gC_drawW|((first|apply gI_dec|apply gG_dec|apply gPG_dec|apply gI_var|apply gG_var|apply gPG_var)<;>intro _))
  all_goals try (exfalso;omega)
  exact weak_flat rfl h0 rfl
 by_cases e3:((compL z R).length:Int)≤p
 ·rw[if_pos (.inr e3)]
  refine vspec_flat rfl rfl (fun _ _=>rfl) (Nat.le_of_ble_eq_true rfl) (oldVals w) rfl fun C hC h0=>?_
  unfold whV
  generalize compL z R=P at*
  repeat' (first|(simp (disch:=try exact z0z) only[WA,slotsL,opdsA,Nat.reduceEqDiff,Nat.reduceLT,Nat.reduceAdd,Nat.reduceBEq,Int.reduceAdd,Int.reduceSub,Int.reduceLT,Int.reduceLE,Int.reduceEq,Int.reduceNeg,↓reduceIte,reduceCtorEq,List.replicate,c11])|apply gC_drawW|((first|apply gI_dec|apply gG_dec|apply gPG_dec|apply gI_var|apply gG_var|apply gPG_var)<;>intro _))
  refine callV_fin (by rw[hC];exact hcp) rfl rfl (fun _=>rfl) ?_
  repeat' (first|(simp (disch:=try exact z0z) only[WA,slotsL,opdsA,Nat.reduceEqDiff,Nat.reduceLT,Nat.reduceAdd,Nat.reduceBEq,Int.reduceAdd,Int.reduceSub,Int.reduceLT,Int.reduceLE,Int.reduceEq,Int.reduceNeg,↓reduceIte,reduceCtorEq,List.replicate])|apply gC_drawW|((first|apply gI_dec|apply gG_dec|apply gPG_dec|apply gI_var|apply gG_var|apply gPG_var)<;>intro _))
  all_goals try (exfalso;omega)
  exact weak_flat rfl h0 rfl
 rw[if_neg (fun h=>h.elim e2 e3)]
 by_cases e4:p=0
 ·rw[if_pos e4]
  subst e4
  refine vspec_flat rfl rfl (fun _ _=>rfl) (Nat.le_of_ble_eq_true rfl) (oldVals w) rfl fun C hC h0=>?_
  unfold whV
  generalize compL z R=P at*
  repeat' (first|(simp (disch:=try exact z0z) only[WA,slotsL,opdsA,Nat.reduceEqDiff,Nat.reduceLT,Nat.reduceAdd,Nat.reduceBEq,Int.reduceAdd,Int.reduceSub,Int.reduceLT,Int.reduceLE,Int.reduceEq,Int.reduceNeg,↓reduceIte,reduceCtorEq,List.replicate,c11])|apply gC_drawW|((first|apply gI_dec|apply gG_dec|apply gPG_dec|apply gI_var|apply gG_var|apply gPG_var)<;>intro _))
  refine callV_fin (by rw[hC];exact hcp) rfl rfl (fun _=>rfl) ?_
  repeat' (first|(simp (disch:=try exact z0z) only[WA,slotsL,opdsA,Nat.reduceEqDiff,Nat.reduceLT,Nat.reduceAdd,Nat.reduceBEq,Int.reduceAdd,Int.reduceSub,Int.reduceLT,Int.reduceLE,Int.reduceEq,Int.reduceNeg,↓reduceIte,reduceCtorEq,List.replicate])|apply gC_drawW|((first|apply gI_dec|apply gG_dec|apply gPG_dec|apply gI_var|apply gG_var|apply gPG_var)<;>intro _))
  all_goals try (exfalso;omega)
  exact weak_flat rfl h0 rfl
 rw[if_neg e4]
 have hz:0<z:=by
  rcases Nat.eq_zero_or_pos z with h|h
  ·subst h
   rw[comp0 c1 c2] at e3
   simp at e3
   omega
  ·exact h
 obtain ⟨pn,rfl⟩:∃ pn:Nat,p=pn:=⟨p.toNat,by omega⟩
 have ha3:=insD_at3 (compL z R) pn (by omega)
 have hpr:=fun i hi=>part_p w n k z hz R hK c1 c2 i hi
 have hcq:=fun i=>compile_p w n 3 0 (by decide) (.inr (.inr rfl)) z (R.take i) (by have:=List.length_take_le' i R;omega) (KOKR_take hK i)
 simp only[Int.toNat_natCast]
 refine vspec_flat rfl rfl (fun _ _=>rfl) (Nat.le_of_ble_eq_true rfl) (oldVals w) rfl fun C hC h0=>?_
 have hrn:C.E.rounds=many:=by rw[hC,callP_rounds]
 unfold whV
 have hwr:∀ f i,wrF z R pn (f+1) i=if (pn:Int)<(compL z (R.take i)).length then i else wrF z R pn f (i+1):=fun _ _=>rfl
 generalize hP:compL z R=P at*
 repeat' (first|(simp (disch:=try exact z0z) only[WA,slotsL,opdsA,Nat.reduceEqDiff,Nat.reduceLT,Nat.reduceAdd,Nat.reduceBEq,Int.reduceAdd,Int.reduceSub,Int.reduceLT,Int.reduceLE,Int.reduceEq,Int.reduceNeg,↓reduceIte,reduceCtorEq,List.replicate,c11])|apply gC_drawW|((first|apply gI_dec|apply gG_dec|apply gPG_dec|apply gI_var|apply gG_var|apply gPG_var)<;>intro _))
 refine callV_fin (by rw[hC];exact hcp) rfl rfl (fun _=>rfl) ?_
 repeat' (first|(simp (disch:=try exact z0z) only[WA,slotsL,opdsA,Nat.reduceEqDiff,Nat.reduceLT,Nat.reduceAdd,Nat.reduceBEq,Int.reduceAdd,Int.reduceSub,Int.reduceLT,Int.reduceLE,Int.reduceEq,Int.reduceNeg,↓reduceIte,reduceCtorEq,List.replicate])|apply gC_drawW|((first|apply gI_dec|apply gG_dec|apply gPG_dec|apply gI_var|apply gG_var|apply gPG_var)<;>intro _))
 all_goals try (exfalso;omega)
 refine g_while (fun m fr st=>∃ i:Nat,m=R.length - i∧i≤R.length∧wrF z R pn R.length 0=wrF z R pn (R.length - i) i∧fr= [(1,iN pn),(2,.ptr 0 0),(4,iN ((i:Int) - 1)),(7,jS 3 P),(32,iN R.length),(33,iN i)]∧st=⟨[(0,chB z 3 k R)],1,0⟩) R.length ?_ ⟨_,_,.refl _ _,0,by omega,Nat.zero_le _,rfl,rfl,rfl⟩ ?_
 ·rw[hrn];unfold many;omega
 rintro m fr st ⟨i,rfl,hi,hinv,rfl,rfl⟩
 by_cases hlt:i<R.length
 case neg=>
  have:i=R.length:=by omega
  subst this
  rw[hinv,Nat.sub_self,wrF]
  repeat' (first|(simp (disch:=try exact z0z) only[WA,slotsL,opdsA,Nat.reduceEqDiff,Nat.reduceLT,Nat.reduceAdd,Nat.reduceBEq,Int.reduceAdd,Int.reduceSub,Int.reduceLT,Int.reduceLE,Int.reduceEq,Int.reduceNeg,↓reduceIte,reduceCtorEq,List.replicate,c11l0,ha3])|apply gC_drawW|((first|apply gI_dec|apply gG_dec|apply gPG_dec|apply gI_var|apply gG_var|apply gPG_var)<;>intro _))
  all_goals try (exfalso;omega)
  exact weak_flat rfl h0 rfl
 rw[show R.length - i=(R.length - (i+1))+1 by omega,hwr] at hinv
 have hpi:=hpr i hi
 have hci:=hcq i
 rw[htk i] at hci
 have hli:=insD_len (compL z (R.take i))
 have hix:(i:Int) - 1+1=i:=by omega
 have hix2:((i+1:Nat):Int) - 1=i:=by omega
 by_cases hb:(pn:Int)<(compL z (R.take i)).length
 ·rw[if_pos hb] at hinv
  rw[hinv]
  generalize compL z (R.take i)=Q at*
  repeat' (first|(simp (disch:=try exact z0z) only[WA,slotsL,opdsA,Nat.reduceEqDiff,Nat.reduceLT,Nat.reduceAdd,Nat.reduceBEq,Int.reduceAdd,Int.reduceSub,Int.reduceLT,Int.reduceLE,Int.reduceEq,Int.reduceNeg,↓reduceIte,reduceCtorEq,List.replicate,c11l0,hix])|apply gC_drawW|((first|apply gI_dec|apply gG_dec|apply gPG_dec|apply gI_var|apply gG_var|apply gPG_var)<;>intro _))
  all_goals try (exfalso;omega)
  refine callV_fin (by rw[hC];exact hpi) rfl rfl (fun _=>rfl) ?_
  repeat' (first|(simp (disch:=try exact z0z) only[WA,slotsL,opdsA,Nat.reduceEqDiff,Nat.reduceLT,Nat.reduceAdd,Nat.reduceBEq,Int.reduceAdd,Int.reduceSub,Int.reduceLT,Int.reduceLE,Int.reduceEq,Int.reduceNeg,↓reduceIte,reduceCtorEq,List.replicate])|apply gC_drawW|((first|apply gI_dec|apply gG_dec|apply gPG_dec|apply gI_var|apply gG_var|apply gPG_var)<;>intro _))
  refine callV_fin (by rw[hC];exact hci) rfl rfl (fun _=>rfl) ?_
  repeat' (first|(simp (disch:=try exact z0z) only[WA,slotsL,opdsA,Nat.reduceEqDiff,Nat.reduceLT,Nat.reduceAdd,Nat.reduceBEq,Int.reduceAdd,Int.reduceSub,Int.reduceLT,Int.reduceLE,Int.reduceEq,Int.reduceNeg,↓reduceIte,reduceCtorEq,List.replicate,ha3])|apply gC_drawW|((first|apply gI_dec|apply gG_dec|apply gPG_dec|apply gI_var|apply gG_var|apply gPG_var)<;>intro _))
  all_goals try (exfalso;omega)
  exact weak_flat rfl h0 rfl
 ·rw[if_neg hb] at hinv
  generalize compL z (R.take i)=Q at*
  repeat' (first|(simp (disch:=try exact z0z) only[WA,slotsL,opdsA,Nat.reduceEqDiff,Nat.reduceLT,Nat.reduceAdd,Nat.reduceBEq,Int.reduceAdd,Int.reduceSub,Int.reduceLT,Int.reduceLE,Int.reduceEq,Int.reduceNeg,↓reduceIte,reduceCtorEq,List.replicate,c11l0,hix])|apply gC_drawW|((first|apply gI_dec|apply gG_dec|apply gPG_dec|apply gI_var|apply gG_var|apply gPG_var)<;>intro _))
  all_goals try (exfalso;omega)
  refine callV_fin (by rw[hC];exact hpi) rfl rfl (fun _=>rfl) ?_
  repeat' (first|(simp (disch:=try exact z0z) only[WA,slotsL,opdsA,Nat.reduceEqDiff,Nat.reduceLT,Nat.reduceAdd,Nat.reduceBEq,Int.reduceAdd,Int.reduceSub,Int.reduceLT,Int.reduceLE,Int.reduceEq,Int.reduceNeg,↓reduceIte,reduceCtorEq,List.replicate])|apply gC_drawW|((first|apply gI_dec|apply gG_dec|apply gPG_dec|apply gI_var|apply gG_var|apply gPG_var)<;>intro _))
  refine callV_fin (by rw[hC];exact hci) rfl rfl (fun _=>rfl) ?_
  repeat' (first|(simp (disch:=try exact z0z) only[WA,slotsL,opdsA,Nat.reduceEqDiff,Nat.reduceLT,Nat.reduceAdd,Nat.reduceBEq,Int.reduceAdd,Int.reduceSub,Int.reduceLT,Int.reduceLE,Int.reduceEq,Int.reduceNeg,↓reduceIte,reduceCtorEq,List.replicate,hix])|apply gC_drawW|((first|apply gI_dec|apply gG_dec|apply gPG_dec|apply gI_var|apply gG_var|apply gPG_var)<;>intro _))
  all_goals try (exfalso;omega)
  exact ⟨R.length - (i+1),_,_,by omega,weak_to [(0,0)] 1 h0 rfl rfl rfl rfl,i+1,rfl,by omega,hinv,by rw[hix2];rfl,rfl⟩
end
set_option maxHeartbeats 200000
theorem wrF_spec (z:Nat) (R:List (Bool × List Sti)) (p:Int) (hp:p<(compL z R).length):∀ (f i:Nat),i+f=R.length→(∀ j,j<i→((compL z (R.take j)).length:Int)≤p)→
  i≤wrF z R p f i∧wrF z R p f i≤R.length∧p<(compL z (R.take (wrF z R p f i))).length∧∀ j,j<wrF z R p f i→((compL z (R.take j)).length:Int)≤p
 |0,i,h,hj=>by
  simp only[wrF]
  have:i=R.length:=by omega
  subst this
  exact ⟨Nat.le_refl _,Nat.le_refl _,by rw[List.take_length];exact hp,hj⟩
 |f+1,i,h,hj=>by
  simp only[wrF]
  by_cases hc:p<(compL z (R.take i)).length
  ·rw[if_pos hc]
   exact ⟨Nat.le_refl _,by omega,hc,hj⟩
  ·rw[if_neg hc]
   obtain ⟨h1,h2,h3,h4⟩:=wrF_spec z R p hp f (i+1) (by omega) fun j hji=>by
    rcases Nat.lt_or_ge j i with hl|hl
    ·exact hj j hl
    ·have:j=i:=by omega
     subst this;omega
   exact ⟨by omega,h2,h3,h4⟩
theorem compL_pos (z:Nat) (R:List (Bool × List Sti)):0<(compL z R).length:=by unfold compL castL;simp
set_option maxHeartbeats 4000000
def plainB (z:Int) (R:List (Bool × List Sti)):Bool:= !greatC R && decide (chkC (z,R)=0) && plnF (z,R)
section
variable (w:World) (n:Nat)
theorem plain44_p (s k:Nat) (z:Int) (R:List (Bool × List Sti)) (hR:R.length≤140737488351232) (hK:KOKR R):VSpec (EN w (n+6)) 31 [chartV s k (z,R)] (.sc (.bool (plainB z R))) ⟨[],0,0⟩:=by
 have h1:=great26_p w (n+3) s k z R hR hK
 have h2:=rcheck26_p w n s k (z,R) hR hK
 have h3:=rplain_p w (n+4) s k z R hR hK
 unfold plainB
 refine vspec_flat rfl rfl (fun _ _=>rfl) (Nat.le_of_ble_eq_true rfl) (oldVals w) rfl fun C hC h0=>?_
 cases hg:greatC R with
 |true=>
  rw[hg] at h1
  rw[Bool.not_true,Bool.false_and,Bool.false_and]
  repeat' (first|(simp (disch:=try exact z0z) only[WA,slotsL,opdsA,Nat.reduceEqDiff,Nat.reduceLT,Nat.reduceAdd,Nat.reduceBEq,Int.reduceAdd,Int.reduceSub,Int.reduceLT,Int.reduceLE,Int.reduceEq,Int.reduceNeg,↓reduceIte,reduceCtorEq,List.replicate,c31])|apply gC_drawW|((first|apply gI_dec|apply gG_dec|apply gPG_dec|apply gI_var|apply gG_var|apply gPG_var)<;>intro _))
  refine callV_flat (by rw[hC];exact h1.flat rfl rfl) ?_
  repeat' (first|(simp (disch:=try exact z0z) only[WA,slotsL,opdsA,Nat.reduceEqDiff,Nat.reduceLT,Nat.reduceAdd,Nat.reduceBEq,Int.reduceAdd,Int.reduceSub,Int.reduceLT,Int.reduceLE,Int.reduceEq,Int.reduceNeg,↓reduceIte,reduceCtorEq,List.replicate])|apply gC_drawW|((first|apply gI_dec|apply gG_dec|apply gPG_dec|apply gI_var|apply gG_var|apply gPG_var)<;>intro _))
  exact weak_flat rfl h0 rfl
 |false=>
  rw[hg] at h1
  rw[Bool.not_false,Bool.true_and]
  by_cases hc:chkC (z,R)=0
  ·rw[hc] at h2
   rw[decide_eq_true hc,Bool.true_and]
   generalize plnF (z,R)=pb at*
   repeat' (first|(simp (disch:=try exact z0z) only[WA,slotsL,opdsA,Nat.reduceEqDiff,Nat.reduceLT,Nat.reduceAdd,Nat.reduceBEq,Int.reduceAdd,Int.reduceSub,Int.reduceLT,Int.reduceLE,Int.reduceEq,Int.reduceNeg,↓reduceIte,reduceCtorEq,List.replicate,c31])|apply gC_drawW|((first|apply gI_dec|apply gG_dec|apply gPG_dec|apply gI_var|apply gG_var|apply gPG_var)<;>intro _))
   refine callV_flat (by rw[hC];exact h1.flat rfl rfl) ?_
   repeat' (first|(simp (disch:=try exact z0z) only[WA,slotsL,opdsA,Nat.reduceEqDiff,Nat.reduceLT,Nat.reduceAdd,Nat.reduceBEq,Int.reduceAdd,Int.reduceSub,Int.reduceLT,Int.reduceLE,Int.reduceEq,Int.reduceNeg,↓reduceIte,reduceCtorEq,List.replicate])|apply gC_drawW|((first|apply gI_dec|apply gG_dec|apply gPG_dec|apply gI_var|apply gG_var|apply gPG_var)<;>intro _))
   refine callV_flat (by rw[hC];exact h2.flat rfl rfl) ?_
   repeat' (first|(simp (disch:=try exact z0z) only[WA,slotsL,opdsA,Nat.reduceEqDiff,Nat.reduceLT,Nat.reduceAdd,Nat.reduceBEq,Int.reduceAdd,Int.reduceSub,Int.reduceLT,Int.reduceLE,Int.reduceEq,Int.reduceNeg,↓reduceIte,reduceCtorEq,List.replicate])|apply gC_drawW|((first|apply gI_dec|apply gG_dec|apply gPG_dec|apply gI_var|apply gG_var|apply gPG_var)<;>intro _))
   refine callV_flat (by rw[hC];exact h3.flat rfl rfl) ?_
   repeat' (first|(simp (disch:=try exact z0z) only[WA,slotsL,opdsA,Nat.reduceEqDiff,Nat.reduceLT,Nat.reduceAdd,Nat.reduceBEq,Int.reduceAdd,Int.reduceSub,Int.reduceLT,Int.reduceLE,Int.reduceEq,Int.reduceNeg,↓reduceIte,reduceCtorEq,List.replicate])|apply gC_drawW|((first|apply gI_dec|apply gG_dec|apply gPG_dec|apply gI_var|apply gG_var|apply gPG_var)<;>intro _))
   exact weak_flat rfl h0 rfl
  ·rw[decide_eq_false hc,Bool.false_and]
   generalize chkC (z,R)=e at*
   repeat' (first|(simp (disch:=try exact z0z) only[WA,slotsL,opdsA,Nat.reduceEqDiff,Nat.reduceLT,Nat.reduceAdd,Nat.reduceBEq,Int.reduceAdd,Int.reduceSub,Int.reduceLT,Int.reduceLE,Int.reduceEq,Int.reduceNeg,↓reduceIte,reduceCtorEq,List.replicate,c31])|apply gC_drawW|((first|apply gI_dec|apply gG_dec|apply gPG_dec|apply gI_var|apply gG_var|apply gPG_var)<;>intro _))
   refine callV_flat (by rw[hC];exact h1.flat rfl rfl) ?_
   repeat' (first|(simp (disch:=try exact z0z) only[WA,slotsL,opdsA,Nat.reduceEqDiff,Nat.reduceLT,Nat.reduceAdd,Nat.reduceBEq,Int.reduceAdd,Int.reduceSub,Int.reduceLT,Int.reduceLE,Int.reduceEq,Int.reduceNeg,↓reduceIte,reduceCtorEq,List.replicate])|apply gC_drawW|((first|apply gI_dec|apply gG_dec|apply gPG_dec|apply gI_var|apply gG_var|apply gPG_var)<;>intro _))
   refine callV_flat (by rw[hC];exact h2.flat rfl rfl) ?_
   repeat' (first|(simp (disch:=try exact z0z) only[WA,slotsL,opdsA,Nat.reduceEqDiff,Nat.reduceLT,Nat.reduceAdd,Nat.reduceBEq,Int.reduceAdd,Int.reduceSub,Int.reduceLT,Int.reduceLE,Int.reduceEq,Int.reduceNeg,↓reduceIte,reduceCtorEq,List.replicate])|apply gC_drawW|((first|apply gI_dec|apply gG_dec|apply gPG_dec|apply gI_var|apply gG_var|apply gPG_var)<;>intro _))
   all_goals try (exfalso;omega)
   exact weak_flat rfl h0 rfl
end
section
variable (w:World)
theorem where_g (c:ChT) (hKc:KOKR c.2) (p:Int) (hc:c.2.length≤140737488351232) {C:Ctx} (hC:C.E=EN w 12) (h0:C.w0.nx=0):
  gC C c7.code [] (vargs 0 [chartV 3 1 c,iN p]) ⟨[],0,0⟩ (RetV C c7.res (.sc (.bool true)) ⟨[],0,0⟩):=by
 obtain ⟨zi,R⟩:=c
 simp only at hKc hc
 have hal:=fun st=>alive_o w 11 st
 have hpl:=plain44_p w 6 3 1 zi R hc hKc
 have hil:=rowsD_len 1 R
 cases hb:plainB zi R with
 |false=>
  rw[hb] at hpl
  repeat' (first|(simp (disch:=try exact z0z) only[WA,slotsL,opdsA,Nat.reduceEqDiff,Nat.reduceLT,Nat.reduceAdd,Nat.reduceBEq,Int.reduceAdd,Int.reduceSub,Int.reduceLT,Int.reduceLE,Int.reduceEq,Int.reduceNeg,↓reduceIte,reduceCtorEq,List.replicate,c7])|apply gC_drawW|((first|apply gI_dec|apply gG_dec|apply gPG_dec|apply gI_var|apply gG_var|apply gPG_var)<;>intro _))
  refine callV_flat (by rw[hC];exact hal _) ?_
  repeat' (first|(simp (disch:=try exact z0z) only[WA,slotsL,opdsA,Nat.reduceEqDiff,Nat.reduceLT,Nat.reduceAdd,Nat.reduceBEq,Int.reduceAdd,Int.reduceSub,Int.reduceLT,Int.reduceLE,Int.reduceEq,Int.reduceNeg,↓reduceIte,reduceCtorEq,List.replicate])|apply gC_drawW|((first|apply gI_dec|apply gG_dec|apply gPG_dec|apply gI_var|apply gG_var|apply gPG_var)<;>intro _))
  refine callV_flat (by rw[hC];exact hpl.flat rfl rfl) ?_
  repeat' (first|(simp (disch:=try exact z0z) only[WA,slotsL,opdsA,Nat.reduceEqDiff,Nat.reduceLT,Nat.reduceAdd,Nat.reduceBEq,Int.reduceAdd,Int.reduceSub,Int.reduceLT,Int.reduceLE,Int.reduceEq,Int.reduceNeg,↓reduceIte,reduceCtorEq,List.replicate])|apply gC_drawW|((first|apply gI_dec|apply gG_dec|apply gPG_dec|apply gI_var|apply gG_var|apply gPG_var)<;>intro _))
  exact weak_flat rfl h0 rfl
 |true=>
 rw[hb] at hpl
 have hcp:=compile_p w 1 3 1 (by decide) (.inl rfl) zi R hc hKc
 have hwh:=where_p w 0 1 (.inl rfl) zi R hc hKc p
 unfold whereF at hwh
 by_cases e1:(compF (zi,R)).2=0
 case neg=>
  rw[if_pos e1] at hwh
  generalize compF (zi,R)=cf at*
  obtain ⟨P,e⟩:=cf
  simp only at e1 hwh hcp
  simp only[whV] at hwh
  repeat' (first|(simp (disch:=try exact z0z) only[WA,slotsL,opdsA,Nat.reduceEqDiff,Nat.reduceLT,Nat.reduceAdd,Nat.reduceBEq,Int.reduceAdd,Int.reduceSub,Int.reduceLT,Int.reduceLE,Int.reduceEq,Int.reduceNeg,↓reduceIte,reduceCtorEq,List.replicate,c7])|apply gC_drawW|((first|apply gI_dec|apply gG_dec|apply gPG_dec|apply gI_var|apply gG_var|apply gPG_var)<;>intro _))
  refine callV_flat (by rw[hC];exact hal _) ?_
  repeat' (first|(simp (disch:=try exact z0z) only[WA,slotsL,opdsA,Nat.reduceEqDiff,Nat.reduceLT,Nat.reduceAdd,Nat.reduceBEq,Int.reduceAdd,Int.reduceSub,Int.reduceLT,Int.reduceLE,Int.reduceEq,Int.reduceNeg,↓reduceIte,reduceCtorEq,List.replicate])|apply gC_drawW|((first|apply gI_dec|apply gG_dec|apply gPG_dec|apply gI_var|apply gG_var|apply gPG_var)<;>intro _))
  refine callV_flat (by rw[hC];exact hpl.flat rfl rfl) ?_
  repeat' (first|(simp (disch:=try exact z0z) only[WA,slotsL,opdsA,Nat.reduceEqDiff,Nat.reduceLT,Nat.reduceAdd,Nat.reduceBEq,Int.reduceAdd,Int.reduceSub,Int.reduceLT,Int.reduceLE,Int.reduceEq,Int.reduceNeg,↓reduceIte,reduceCtorEq,List.replicate])|apply gC_drawW|((first|apply gI_dec|apply gG_dec|apply gPG_dec|apply gI_var|apply gG_var|apply gPG_var)<;>intro _))
  refine callV_fin (by rw[hC];exact hcp) rfl rfl (fun _=>rfl) ?_
  repeat' (first|(simp (disch:=try exact z0z) only[WA,slotsL,opdsA,Nat.reduceEqDiff,Nat.reduceLT,Nat.reduceAdd,Nat.reduceBEq,Int.reduceAdd,Int.reduceSub,Int.reduceLT,Int.reduceLE,Int.reduceEq,Int.reduceNeg,↓reduceIte,reduceCtorEq,List.replicate])|apply gC_drawW|((first|apply gI_dec|apply gG_dec|apply gPG_dec|apply gI_var|apply gG_var|apply gPG_var)<;>intro _))
  refine callV_flat (by rw[hC];exact hwh.flat rfl rfl) ?_
  repeat' (first|(simp (disch:=try exact z0z) only[WA,slotsL,opdsA,Nat.reduceEqDiff,Nat.reduceLT,Nat.reduceAdd,Nat.reduceBEq,Int.reduceAdd,Int.reduceSub,Int.reduceLT,Int.reduceLE,Int.reduceEq,Int.reduceNeg,↓reduceIte,reduceCtorEq,List.replicate,e1])|apply gC_drawW|((first|apply gI_dec|apply gG_dec|apply gPG_dec|apply gI_var|apply gG_var|apply gPG_var)<;>intro _))
  exact weak_flat rfl h0 rfl
 rw[if_neg (fun h=>h e1)] at hwh
 obtain ⟨z,rfl⟩:∃ z:Nat,zi=z:=⟨zi.toNat,by
  have:chkC (zi,R)=0:=by
   unfold compF at e1
   by_cases h:chkC (zi,R)=0
   ·exact h
   ·rw[if_pos h] at e1;exact absurd e1 h
  have:=chkC_ok this
  simp only at this
  omega⟩
 obtain ⟨c1,c2,c3,c4,c5⟩:=compF_ok e1
 have htk:=fun i=>compF_take e1 i
 have hck:=chkC_ok c1
 simp only at hck
 rw[show compF ((z:Int),R)=(compL z R,0) from Prod.ext c5 e1] at hcp hwh
 have hpil:=insD_len (compL z R)
 by_cases e2:p<0∨(compL z R).length≤p
 ·rw[if_pos e2] at hwh
  simp only[whV] at hwh
  generalize compL z R=P at*
  by_cases e3:p<0
  ·repeat' (first|(simp (disch:=try exact z0z) only[WA,slotsL,opdsA,Nat.reduceEqDiff,Nat.reduceLT,Nat.reduceAdd,Nat.reduceBEq,Int.reduceAdd,Int.reduceSub,Int.reduceLT,Int.reduceLE,Int.reduceEq,Int.reduceNeg,↓reduceIte,reduceCtorEq,List.replicate,c7])|apply gC_drawW|((first|apply gI_dec|apply gG_dec|apply gPG_dec|apply gI_var|apply gG_var|apply gPG_var)<;>intro _))
   refine callV_flat (by rw[hC];exact hal _) ?_
   repeat' (first|(simp (disch:=try exact z0z) only[WA,slotsL,opdsA,Nat.reduceEqDiff,Nat.reduceLT,Nat.reduceAdd,Nat.reduceBEq,Int.reduceAdd,Int.reduceSub,Int.reduceLT,Int.reduceLE,Int.reduceEq,Int.reduceNeg,↓reduceIte,reduceCtorEq,List.replicate])|apply gC_drawW|((first|apply gI_dec|apply gG_dec|apply gPG_dec|apply gI_var|apply gG_var|apply gPG_var)<;>intro _))
   refine callV_flat (by rw[hC];exact hpl.flat rfl rfl) ?_
   repeat' (first|(simp (disch:=try exact z0z) only[WA,slotsL,opdsA,Nat.reduceEqDiff,Nat.reduceLT,Nat.reduceAdd,Nat.reduceBEq,Int.reduceAdd,Int.reduceSub,Int.reduceLT,Int.reduceLE,Int.reduceEq,Int.reduceNeg,↓reduceIte,reduceCtorEq,List.replicate])|apply gC_drawW|((first|apply gI_dec|apply gG_dec|apply gPG_dec|apply gI_var|apply gG_var|apply gPG_var)<;>intro _))
   refine callV_fin (by rw[hC];exact hcp) rfl rfl (fun _=>rfl) ?_
   repeat' (first|(simp (disch:=try exact z0z) only[WA,slotsL,opdsA,Nat.reduceEqDiff,Nat.reduceLT,Nat.reduceAdd,Nat.reduceBEq,Int.reduceAdd,Int.reduceSub,Int.reduceLT,Int.reduceLE,Int.reduceEq,Int.reduceNeg,↓reduceIte,reduceCtorEq,List.replicate])|apply gC_drawW|((first|apply gI_dec|apply gG_dec|apply gPG_dec|apply gI_var|apply gG_var|apply gPG_var)<;>intro _))
   refine callV_flat (by rw[hC];exact hwh.flat rfl rfl) ?_
   repeat' (first|(simp (disch:=try exact z0z) only[WA,slotsL,opdsA,Nat.reduceEqDiff,Nat.reduceLT,Nat.reduceAdd,Nat.reduceBEq,Int.reduceAdd,Int.reduceSub,Int.reduceLT,Int.reduceLE,Int.reduceEq,Int.reduceNeg,↓reduceIte,reduceCtorEq,List.replicate])|apply gC_drawW|((first|apply gI_dec|apply gG_dec|apply gPG_dec|apply gI_var|apply gG_var|apply gPG_var)<;>intro _))
   all_goals try (exfalso;omega)
   exact weak_flat rfl h0 rfl
  ·repeat' (first|(simp (disch:=try exact z0z) only[WA,slotsL,opdsA,Nat.reduceEqDiff,Nat.reduceLT,Nat.reduceAdd,Nat.reduceBEq,Int.reduceAdd,Int.reduceSub,Int.reduceLT,Int.reduceLE,Int.reduceEq,Int.reduceNeg,↓reduceIte,reduceCtorEq,List.replicate,c7])|apply gC_drawW|((first|apply gI_dec|apply gG_dec|apply gPG_dec|apply gI_var|apply gG_var|apply gPG_var)<;>intro _))
   refine callV_flat (by rw[hC];exact hal _) ?_
   repeat' (first|(simp (disch:=try exact z0z) only[WA,slotsL,opdsA,Nat.reduceEqDiff,Nat.reduceLT,Nat.reduceAdd,Nat.reduceBEq,Int.reduceAdd,Int.reduceSub,Int.reduceLT,Int.reduceLE,Int.reduceEq,Int.reduceNeg,↓reduceIte,reduceCtorEq,List.replicate])|apply gC_drawW|((first|apply gI_dec|apply gG_dec|apply gPG_dec|apply gI_var|apply gG_var|apply gPG_var)<;>intro _))
   refine callV_flat (by rw[hC];exact hpl.flat rfl rfl) ?_
   repeat' (first|(simp (disch:=try exact z0z) only[WA,slotsL,opdsA,Nat.reduceEqDiff,Nat.reduceLT,Nat.reduceAdd,Nat.reduceBEq,Int.reduceAdd,Int.reduceSub,Int.reduceLT,Int.reduceLE,Int.reduceEq,Int.reduceNeg,↓reduceIte,reduceCtorEq,List.replicate])|apply gC_drawW|((first|apply gI_dec|apply gG_dec|apply gPG_dec|apply gI_var|apply gG_var|apply gPG_var)<;>intro _))
   refine callV_fin (by rw[hC];exact hcp) rfl rfl (fun _=>rfl) ?_
   repeat' (first|(simp (disch:=try exact z0z) only[WA,slotsL,opdsA,Nat.reduceEqDiff,Nat.reduceLT,Nat.reduceAdd,Nat.reduceBEq,Int.reduceAdd,Int.reduceSub,Int.reduceLT,Int.reduceLE,Int.reduceEq,Int.reduceNeg,↓reduceIte,reduceCtorEq,List.replicate])|apply gC_drawW|((first|apply gI_dec|apply gG_dec|apply gPG_dec|apply gI_var|apply gG_var|apply gPG_var)<;>intro _))
   refine callV_flat (by rw[hC];exact hwh.flat rfl rfl) ?_
   repeat' (first|(simp (disch:=try exact z0z) only[WA,slotsL,opdsA,Nat.reduceEqDiff,Nat.reduceLT,Nat.reduceAdd,Nat.reduceBEq,Int.reduceAdd,Int.reduceSub,Int.reduceLT,Int.reduceLE,Int.reduceEq,Int.reduceNeg,↓reduceIte,reduceCtorEq,List.replicate])|apply gC_drawW|((first|apply gI_dec|apply gG_dec|apply gPG_dec|apply gI_var|apply gG_var|apply gPG_var)<;>intro _))
   all_goals try (exfalso;omega)
   exact weak_flat rfl h0 rfl
 rw[if_neg e2] at hwh
 have hcl0:=compL_pos z (R.take 0)
 have hct0:=compile_p w 1 3 1 (by decide) (.inl rfl) z (R.take 0) (by rw[List.length_take];omega) (KOKR_take hKc 0)
 rw[htk 0] at hct0
 have hpd0:partD (rowsD 1 R) 0 0=rowsD 1 (R.take 0):=by have:=partD_rows 1 R 0 (by omega);rwa [Nat.zero_mul] at this
 have hl0:(R.take 0).length=0:=by rw[List.length_take];omega
 simp only[chartV,hl0,jfV,jS] at hct0
 by_cases e3:p=0
 ·subst e3
  rw[if_pos rfl] at hwh
  simp only[whV] at hwh
  have hpil0:=insD_len (compL z (R.take 0))
  generalize compL z (R.take 0)=P0 at*
  generalize compL z R=P at*
  repeat' (first|(simp (disch:=try exact z0z) only[WA,slotsL,opdsA,Nat.reduceEqDiff,Nat.reduceLT,Nat.reduceAdd,Nat.reduceBEq,Int.reduceAdd,Int.reduceSub,Int.reduceLT,Int.reduceLE,Int.reduceEq,Int.reduceNeg,↓reduceIte,reduceCtorEq,List.replicate,c7])|apply gC_drawW|((first|apply gI_dec|apply gG_dec|apply gPG_dec|apply gI_var|apply gG_var|apply gPG_var)<;>intro _))
  refine callV_flat (by rw[hC];exact hal _) ?_
  repeat' (first|(simp (disch:=try exact z0z) only[WA,slotsL,opdsA,Nat.reduceEqDiff,Nat.reduceLT,Nat.reduceAdd,Nat.reduceBEq,Int.reduceAdd,Int.reduceSub,Int.reduceLT,Int.reduceLE,Int.reduceEq,Int.reduceNeg,↓reduceIte,reduceCtorEq,List.replicate])|apply gC_drawW|((first|apply gI_dec|apply gG_dec|apply gPG_dec|apply gI_var|apply gG_var|apply gPG_var)<;>intro _))
  refine callV_flat (by rw[hC];exact hpl.flat rfl rfl) ?_
  repeat' (first|(simp (disch:=try exact z0z) only[WA,slotsL,opdsA,Nat.reduceEqDiff,Nat.reduceLT,Nat.reduceAdd,Nat.reduceBEq,Int.reduceAdd,Int.reduceSub,Int.reduceLT,Int.reduceLE,Int.reduceEq,Int.reduceNeg,↓reduceIte,reduceCtorEq,List.replicate])|apply gC_drawW|((first|apply gI_dec|apply gG_dec|apply gPG_dec|apply gI_var|apply gG_var|apply gPG_var)<;>intro _))
  refine callV_fin (by rw[hC];exact hcp) rfl rfl (fun _=>rfl) ?_
  repeat' (first|(simp (disch:=try exact z0z) only[WA,slotsL,opdsA,Nat.reduceEqDiff,Nat.reduceLT,Nat.reduceAdd,Nat.reduceBEq,Int.reduceAdd,Int.reduceSub,Int.reduceLT,Int.reduceLE,Int.reduceEq,Int.reduceNeg,↓reduceIte,reduceCtorEq,List.replicate])|apply gC_drawW|((first|apply gI_dec|apply gG_dec|apply gPG_dec|apply gI_var|apply gG_var|apply gPG_var)<;>intro _))
  refine callV_flat (by rw[hC];exact hwh.flat rfl rfl) ?_
  repeat' (first|(simp (disch:=try exact z0z) only[WA,slotsL,opdsA,Nat.reduceEqDiff,Nat.reduceLT,Nat.reduceAdd,Nat.reduceBEq,Int.reduceAdd,Int.reduceSub,Int.reduceLT,Int.reduceLE,Int.reduceEq,Int.reduceNeg,↓reduceIte,reduceCtorEq,List.replicate,hpd0,tn0,Nat.zero_mul])|apply gC_drawW|((first|apply gI_dec|apply gG_dec|apply gPG_dec|apply gI_var|apply gG_var|apply gPG_var)<;>intro _))
  all_goals try (exfalso;omega)
  refine callR_last trivial trivial (by rw[hC];exact hct0) rfl rfl (fun _=>rfl) ?_
  repeat' (first|(simp (disch:=try exact z0z) only[WA,slotsL,opdsA,Nat.reduceEqDiff,Nat.reduceLT,Nat.reduceAdd,Nat.reduceBEq,Int.reduceAdd,Int.reduceSub,Int.reduceLT,Int.reduceLE,Int.reduceEq,Int.reduceNeg,↓reduceIte,reduceCtorEq,List.replicate,gT_nil,gT_mov,gT_ext,gTV_some])|apply gC_drawW|((first|apply gI_dec|apply gG_dec|apply gPG_dec|apply gI_var|apply gG_var|apply gPG_var)<;>intro _))
  all_goals try (exfalso;omega)
  exact weak_flat rfl h0 rfl
 rw[if_neg e3] at hwh
 obtain ⟨T,hT⟩:∃ T,T=wrF z R p R.length 0:=⟨_,rfl⟩
 obtain ⟨_,t2,t3,t4⟩:=wrF_spec z R p (by omega) R.length 0 (by omega) (fun j hj=>by omega)
 simp only[Int.toNat_natCast] at hwh
 rw[← hT] at t2 t3 t4 hwh
 obtain ⟨q,rfl⟩:∃ q:Nat,p=q:=⟨p.toNat,by omega⟩
 have hat:=insD_at3 (compL z R) q (by omega)
 have hctT:=compile_p w 1 3 1 (by decide) (.inl rfl) z (R.take T) (by rw[List.length_take];omega) (KOKR_take hKc T)
 rw[htk T] at hctT
 have hpdT:=partD_rows 1 R T t2
 have hlT:(R.take T).length=T:=by rw[List.length_take];omega
 simp only[chartV,hlT,jfV,jS] at hctT
 have z1:((T:Int) - 1+1)=T:=by omega
 have z2:Int.toNat (T:Int)=T:=by omega
 simp only[whV,Int.toNat_natCast] at hwh
 by_cases e4:T=0
 ·subst e4
  have hpilT:=insD_len (compL z (R.take 0))
  generalize compL z (R.take 0)=P0 at*
  generalize compL z R=P at*
  generalize P[q]! =y at*
  repeat' (first|(simp (disch:=try exact z0z) only[WA,slotsL,opdsA,Nat.reduceEqDiff,Nat.reduceLT,Nat.reduceAdd,Nat.reduceBEq,Int.reduceAdd,Int.reduceSub,Int.reduceLT,Int.reduceLE,Int.reduceEq,Int.reduceNeg,↓reduceIte,reduceCtorEq,List.replicate,c7])|apply gC_drawW|((first|apply gI_dec|apply gG_dec|apply gPG_dec|apply gI_var|apply gG_var|apply gPG_var)<;>intro _))
  refine callV_flat (by rw[hC];exact hal _) ?_
  repeat' (first|(simp (disch:=try exact z0z) only[WA,slotsL,opdsA,Nat.reduceEqDiff,Nat.reduceLT,Nat.reduceAdd,Nat.reduceBEq,Int.reduceAdd,Int.reduceSub,Int.reduceLT,Int.reduceLE,Int.reduceEq,Int.reduceNeg,↓reduceIte,reduceCtorEq,List.replicate])|apply gC_drawW|((first|apply gI_dec|apply gG_dec|apply gPG_dec|apply gI_var|apply gG_var|apply gPG_var)<;>intro _))
  refine callV_flat (by rw[hC];exact hpl.flat rfl rfl) ?_
  repeat' (first|(simp (disch:=try exact z0z) only[WA,slotsL,opdsA,Nat.reduceEqDiff,Nat.reduceLT,Nat.reduceAdd,Nat.reduceBEq,Int.reduceAdd,Int.reduceSub,Int.reduceLT,Int.reduceLE,Int.reduceEq,Int.reduceNeg,↓reduceIte,reduceCtorEq,List.replicate])|apply gC_drawW|((first|apply gI_dec|apply gG_dec|apply gPG_dec|apply gI_var|apply gG_var|apply gPG_var)<;>intro _))
  refine callV_fin (by rw[hC];exact hcp) rfl rfl (fun _=>rfl) ?_
  repeat' (first|(simp (disch:=try exact z0z) only[WA,slotsL,opdsA,Nat.reduceEqDiff,Nat.reduceLT,Nat.reduceAdd,Nat.reduceBEq,Int.reduceAdd,Int.reduceSub,Int.reduceLT,Int.reduceLE,Int.reduceEq,Int.reduceNeg,↓reduceIte,reduceCtorEq,List.replicate])|apply gC_drawW|((first|apply gI_dec|apply gG_dec|apply gPG_dec|apply gI_var|apply gG_var|apply gPG_var)<;>intro _))
  refine callV_flat (by rw[hC];exact hwh.flat rfl rfl) ?_
  repeat' (first|(simp (disch:=try exact z0z) only[WA,slotsL,opdsA,Nat.reduceEqDiff,Nat.reduceLT,Nat.reduceAdd,Nat.reduceBEq,Int.reduceAdd,Int.reduceSub,Int.reduceLT,Int.reduceLE,Int.reduceEq,Int.reduceNeg,↓reduceIte,reduceCtorEq,List.replicate,hpd0,tn0,Nat.zero_mul,hat,z1,z2])|apply gC_drawW|((first|apply gI_dec|apply gG_dec|apply gPG_dec|apply gI_var|apply gG_var|apply gPG_var)<;>intro _))
  all_goals try (exfalso;omega)
  refine callR_last trivial trivial (by rw[hC];exact hct0) rfl rfl (fun _=>rfl) ?_
  repeat' (first|(simp (disch:=try exact z0z) only[WA,slotsL,opdsA,Nat.reduceEqDiff,Nat.reduceLT,Nat.reduceAdd,Nat.reduceBEq,Int.reduceAdd,Int.reduceSub,Int.reduceLT,Int.reduceLE,Int.reduceEq,Int.reduceNeg,↓reduceIte,reduceCtorEq,List.replicate,gT_nil,gT_mov,gT_ext,gTV_some])|apply gC_drawW|((first|apply gI_dec|apply gG_dec|apply gPG_dec|apply gI_var|apply gG_var|apply gPG_var)<;>intro _))
  all_goals try (exfalso;omega)
  exact weak_flat rfl h0 rfl
 have t5:=t4 (T - 1) (by omega)
 have hctS:=compile_p w 1 3 1 (by decide) (.inl rfl) z (R.take (T - 1)) (by rw[List.length_take];omega) (KOKR_take hKc (T - 1))
 rw[htk (T - 1)] at hctS
 have hpdS:=partD_rows 1 R (T - 1) (by omega)
 have hlS:(R.take (T - 1)).length=T - 1:=by rw[List.length_take];omega
 simp only[chartV,hlS,jfV,jS] at hctS
 have z3:Int.toNat ((T:Int) - 1)=T - 1:=by omega
 have hpilT:=insD_len (compL z (R.take T))
 have hpilS:=insD_len (compL z (R.take (T - 1)))
 generalize compL z (R.take (T - 1))=P1 at*
 generalize compL z (R.take T)=P0 at*
 generalize compL z R=P at*
 generalize P[q]! =y at*
 repeat' (first|(simp (disch:=try exact z0z) only[WA,slotsL,opdsA,Nat.reduceEqDiff,Nat.reduceLT,Nat.reduceAdd,Nat.reduceBEq,Int.reduceAdd,Int.reduceSub,Int.reduceLT,Int.reduceLE,Int.reduceEq,Int.reduceNeg,↓reduceIte,reduceCtorEq,List.replicate,c7])|apply gC_drawW|((first|apply gI_dec|apply gG_dec|apply gPG_dec|apply gI_var|apply gG_var|apply gPG_var)<;>intro _))
 refine callV_flat (by rw[hC];exact hal _) ?_
 repeat' (first|(simp (disch:=try exact z0z) only[WA,slotsL,opdsA,Nat.reduceEqDiff,Nat.reduceLT,Nat.reduceAdd,Nat.reduceBEq,Int.reduceAdd,Int.reduceSub,Int.reduceLT,Int.reduceLE,Int.reduceEq,Int.reduceNeg,↓reduceIte,reduceCtorEq,List.replicate])|apply gC_drawW|((first|apply gI_dec|apply gG_dec|apply gPG_dec|apply gI_var|apply gG_var|apply gPG_var)<;>intro _))
 refine callV_flat (by rw[hC];exact hpl.flat rfl rfl) ?_
 repeat' (first|(simp (disch:=try exact z0z) only[WA,slotsL,opdsA,Nat.reduceEqDiff,Nat.reduceLT,Nat.reduceAdd,Nat.reduceBEq,Int.reduceAdd,Int.reduceSub,Int.reduceLT,Int.reduceLE,Int.reduceEq,Int.reduceNeg,↓reduceIte,reduceCtorEq,List.replicate])|apply gC_drawW|((first|apply gI_dec|apply gG_dec|apply gPG_dec|apply gI_var|apply gG_var|apply gPG_var)<;>intro _))
 refine callV_fin (by rw[hC];exact hcp) rfl rfl (fun _=>rfl) ?_
 repeat' (first|(simp (disch:=try exact z0z) only[WA,slotsL,opdsA,Nat.reduceEqDiff,Nat.reduceLT,Nat.reduceAdd,Nat.reduceBEq,Int.reduceAdd,Int.reduceSub,Int.reduceLT,Int.reduceLE,Int.reduceEq,Int.reduceNeg,↓reduceIte,reduceCtorEq,List.replicate])|apply gC_drawW|((first|apply gI_dec|apply gG_dec|apply gPG_dec|apply gI_var|apply gG_var|apply gPG_var)<;>intro _))
 refine callV_flat (by rw[hC];exact hwh.flat rfl rfl) ?_
 repeat' (first|(simp (disch:=try exact z0z) only[WA,slotsL,opdsA,Nat.reduceEqDiff,Nat.reduceLT,Nat.reduceAdd,Nat.reduceBEq,Int.reduceAdd,Int.reduceSub,Int.reduceLT,Int.reduceLE,Int.reduceEq,Int.reduceNeg,↓reduceIte,reduceCtorEq,List.replicate,hpdT,hat,z1,z2])|apply gC_drawW|((first|apply gI_dec|apply gG_dec|apply gPG_dec|apply gI_var|apply gG_var|apply gPG_var)<;>intro _))
 all_goals try (exfalso;omega)
 refine callR_last trivial trivial (by rw[hC];exact hctT) rfl rfl (fun _=>rfl) ?_
 repeat' (first|(simp (disch:=try exact z0z) only[WA,slotsL,opdsA,Nat.reduceEqDiff,Nat.reduceLT,Nat.reduceAdd,Nat.reduceBEq,Int.reduceAdd,Int.reduceSub,Int.reduceLT,Int.reduceLE,Int.reduceEq,Int.reduceNeg,↓reduceIte,reduceCtorEq,List.replicate,gT_nil,gT_mov,gT_ext,gTV_some,hpdS,z3])|apply gC_drawW|((first|apply gI_dec|apply gG_dec|apply gPG_dec|apply gI_var|apply gG_var|apply gPG_var)<;>intro _))
 all_goals try (exfalso;omega)
 refine callR_last trivial trivial (by rw[hC];exact hctS) rfl rfl (fun _=>rfl) ?_
 repeat' (first|(simp (disch:=try exact z0z) only[WA,slotsL,opdsA,Nat.reduceEqDiff,Nat.reduceLT,Nat.reduceAdd,Nat.reduceBEq,Int.reduceAdd,Int.reduceSub,Int.reduceLT,Int.reduceLE,Int.reduceEq,Int.reduceNeg,↓reduceIte,reduceCtorEq,List.replicate,gT_nil,gT_mov,gT_ext,gTV_some])|apply gC_drawW|((first|apply gI_dec|apply gG_dec|apply gPG_dec|apply gI_var|apply gG_var|apply gPG_var)<;>intro _))
 all_goals try (exfalso;omega)
 exact weak_flat rfl h0 rfl
end
end Go.Proofs.YtgohenjcanfolaaGreatDoor
