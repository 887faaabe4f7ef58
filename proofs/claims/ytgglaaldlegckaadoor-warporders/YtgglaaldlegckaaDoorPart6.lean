/- What is proved: the law WarpOrders returns true for every input. Conditions: none beyond the card's own.
   Texts: O22l, O22m.
-/
import Derived.Test.YtgglaaldlegckaaDoorPart5
import Derived.Test.YtgglaaldlegckaaDoorCards
import Derived.Test.YtgglaaldlegckaaDoorTie
import Derived.SizedLaws
import Derived.ChangeAt
import Derived.SevenTiedAt
import Derived.Stop.Joined
import Derived.Lay
namespace Go.Proofs.YtgglaaldlegckaaDoor
open Go Go.Itp
set_option maxRecDepth 100000
set_option maxHeartbeats 1000000
set_option linter.unusedSimpArgs false
def great (l:List Int):Bool:=(decide (60<l.length) && decide (l.length≤4000))||decide (4100<l.length)
section
variable (w:World) (n:Nat)
theorem great_p (s:Nat) (l:List Int) (hl:l.length≤140737488351232):VSpec (EN w (n+1)) 9 [.sl s l.length (l.map iD)] (.sc (.bool (great l))) ⟨[],0,0⟩:=by
 refine vspec_flat rfl rfl (fun _ _=>rfl) (Nat.le_of_ble_eq_true rfl) (oldVals w) rfl fun C hC h0=>?_
 by_cases h1:60<l.length
 ·by_cases h2:l.length≤4000
  ·have e:great l=true:=by simp[great,h1,h2]
   rw[e]
   repeat' (first|(simp (disch:=first|omega|assumption|(refine @id ((_:Bool)=_) ?_;exact id (by with_unfolding_all rfl))|(exact Or.inl rfl)|(exact Or.inl trivial)|(exact okL_map _ (fun _=>rfl) _)|(simp only[VVlen]<;>omega)|fail) only[VV0,VV1,VV2,VV3,VV4,VV5,VV6,VV7,VV8,VV9,mkFnV,vargs,slotsL,opdsA,Nat.reduceEqDiff,Nat.reduceLT,Nat.reduceAdd,Nat.reduceBEq,Int.reduceAdd,Int.reduceSub,Int.reduceLT,Int.reduceLE,Int.reduceEq,Int.reduceNeg,↓reduceIte,reduceCtorEq,scL,scD,expand,List.replicate,c9])|(refine gC_drawW ?_)|(refine gI_dec (fun _=>?_) (fun _=>?_))|(refine gG_dec (fun _=>?_) (fun _=>?_))|(refine gPG_dec (fun _=>?_) (fun _=>?_))|(refine gI_var (fun _=>?_) (fun _=>?_))|(refine gG_var (fun _=>?_) (fun _=>?_))|(refine gPG_var (fun _=>?_) (fun _=>?_)))
   all_goals try (exfalso;omega)
   exact weak_flat rfl h0 rfl
  ·by_cases h3:4100<l.length
   ·have e:great l=true:=by simp[great,h3]
    rw[e]
    repeat' (first|(simp (disch:=first|omega|assumption|(refine @id ((_:Bool)=_) ?_;exact id (by with_unfolding_all rfl))|(exact Or.inl rfl)|(exact Or.inl trivial)|(exact okL_map _ (fun _=>rfl) _)|(simp only[VVlen]<;>omega)|fail) only[VV0,VV1,VV2,VV3,VV4,VV5,VV6,VV7,VV8,VV9,mkFnV,vargs,slotsL,opdsA,Nat.reduceEqDiff,Nat.reduceLT,Nat.reduceAdd,Nat.reduceBEq,Int.reduceAdd,Int.reduceSub,Int.reduceLT,Int.reduceLE,Int.reduceEq,Int.reduceNeg,↓reduceIte,reduceCtorEq,scL,scD,expand,List.replicate,c9])|(refine gC_drawW ?_)|(refine gI_dec (fun _=>?_) (fun _=>?_))|(refine gG_dec (fun _=>?_) (fun _=>?_))|(refine gPG_dec (fun _=>?_) (fun _=>?_))|(refine gI_var (fun _=>?_) (fun _=>?_))|(refine gG_var (fun _=>?_) (fun _=>?_))|(refine gPG_var (fun _=>?_) (fun _=>?_)))
    all_goals try (exfalso;omega)
    exact weak_flat rfl h0 rfl
   ·have e:great l=false:=by simp[great];omega
    rw[e]
    repeat' (first|(simp (disch:=first|omega|assumption|(refine @id ((_:Bool)=_) ?_;exact id (by with_unfolding_all rfl))|(exact Or.inl rfl)|(exact Or.inl trivial)|(exact okL_map _ (fun _=>rfl) _)|(simp only[VVlen]<;>omega)|fail) only[VV0,VV1,VV2,VV3,VV4,VV5,VV6,VV7,VV8,VV9,mkFnV,vargs,slotsL,opdsA,Nat.reduceEqDiff,Nat.reduceLT,Nat.reduceAdd,Nat.reduceBEq,Int.reduceAdd,Int.reduceSub,Int.reduceLT,Int.reduceLE,Int.reduceEq,Int.reduceNeg,↓reduceIte,reduceCtorEq,scL,scD,expand,List.replicate,c9])|(refine gC_drawW ?_)|(refine gI_dec (fun _=>?_) (fun _=>?_))|(refine gG_dec (fun _=>?_) (fun _=>?_))|(refine gPG_dec (fun _=>?_) (fun _=>?_))|(refine gI_var (fun _=>?_) (fun _=>?_))|(refine gG_var (fun _=>?_) (fun _=>?_))|(refine gPG_var (fun _=>?_) (fun _=>?_)))
    all_goals try (exfalso;omega)
    exact weak_flat rfl h0 rfl
 ·have e:great l=false:=by simp[great];omega
  rw[e]
  repeat' (first|(simp (disch:=first|omega|assumption|(refine @id ((_:Bool)=_) ?_;exact id (by with_unfolding_all rfl))|(exact Or.inl rfl)|(exact Or.inl trivial)|(exact okL_map _ (fun _=>rfl) _)|(simp only[VVlen]<;>omega)|fail) only[VV0,VV1,VV2,VV3,VV4,VV5,VV6,VV7,VV8,VV9,mkFnV,vargs,slotsL,opdsA,Nat.reduceEqDiff,Nat.reduceLT,Nat.reduceAdd,Nat.reduceBEq,Int.reduceAdd,Int.reduceSub,Int.reduceLT,Int.reduceLE,Int.reduceEq,Int.reduceNeg,↓reduceIte,reduceCtorEq,scL,scD,expand,List.replicate,c9])|(refine gC_drawW ?_)|(refine gI_dec (fun _=>?_) (fun _=>?_))|(refine gG_dec (fun _=>?_) (fun _=>?_))|(refine gPG_dec (fun _=>?_) (fun _=>?_))|(refine gI_var (fun _=>?_) (fun _=>?_))|(refine gG_var (fun _=>?_) (fun _=>?_))|(refine gPG_var (fun _=>?_) (fun _=>?_)))
  all_goals try (exfalso;omega)
  exact weak_flat rfl h0 rfl
end
theorem snap1 {z:Bool} {l:List Int} (R:VHp) (t:Nat):snapL ((1,.gro t 1 z (l.map iD))::R) [.gr 2 1 l.length]=some [.sl 2 l.length (l.map iD)]:=by
 have h:aget ((1,.gro t 1 z (l.map iD))::R) 1=some (.gro t 1 z (l.map iD)):=by rw[aget_cons,if_pos rfl]
 simp only[snapL,snap_ints h,Option.bind_some,Option.map_some]
theorem snap2 {z:Bool} {l:List Int} (R:VHp) (t s n:Nat) (L:List D):snapL ((1,.gro t 1 z (l.map iD))::R) [.gr 2 1 l.length,.sl s n L]=some [.sl 2 l.length (l.map iD),.sl s n L]:=by
 have h:aget ((1,.gro t 1 z (l.map iD))::R) 1=some (.gro t 1 z (l.map iD)):=by rw[aget_cons,if_pos rfl]
 have h2:snapV ((1,.gro t 1 z (l.map iD))::R) (.sl s n L)=some (.sl s n L):=rfl
 simp only[snapL,snap_ints h,h2,Option.bind_some,Option.map_some]
theorem orders_g (w:World) (l m:List Int) (hl:l.length≤140737488351232) (hm:m.length≤140737488351232) {C:Ctx} (hC:C.E=EN w 8) (h0:C.w0.nx=0):
  gC C c3.code [] (vargs 0 [.sl 3 l.length (l.map iD),.sl 3 m.length (m.map iD)]) ⟨[],0,0⟩ (RetV C c3.res (.sc (.bool true)) ⟨[],0,0⟩):=by
 repeat' (first|(simp (disch:=first|omega|assumption|(refine @id ((_:Bool)=_) ?_;exact id (by with_unfolding_all rfl))|(exact Or.inl rfl)|(exact Or.inl trivial)|(exact okL_map _ (fun _=>rfl) _)|(simp only[VVlen]<;>omega)|fail) only[VV0,VV1,VV2,VV3,VV4,VV5,VV6,VV7,VV8,VV9,mkFnV,vargs,slotsL,opdsA,Nat.reduceEqDiff,Nat.reduceLT,Nat.reduceAdd,Nat.reduceBEq,Int.reduceAdd,Int.reduceSub,Int.reduceLT,Int.reduceLE,Int.reduceEq,Int.reduceNeg,↓reduceIte,reduceCtorEq,scL,scD,expand,List.replicate,c3])|(refine gC_drawW ?_)|(refine gI_dec (fun _=>?_) (fun _=>?_))|(refine gG_dec (fun _=>?_) (fun _=>?_))|(refine gPG_dec (fun _=>?_) (fun _=>?_))|(refine gI_var (fun _=>?_) (fun _=>?_))|(refine gG_var (fun _=>?_) (fun _=>?_))|(refine gPG_var (fun _=>?_) (fun _=>?_)))
 refine callV_flat ((great_p w 7 3 l hl).of hC rfl _ rfl) ?_
 by_cases hg:great l=true
 ·rw[hg]
  repeat' (first|(simp (disch:=first|omega|assumption|(refine @id ((_:Bool)=_) ?_;exact id (by with_unfolding_all rfl))|(exact Or.inl rfl)|(exact Or.inl trivial)|(exact okL_map _ (fun _=>rfl) _)|(simp only[VVlen]<;>omega)|fail) only[VV0,VV1,VV2,VV3,VV4,VV5,VV6,VV7,VV8,VV9,mkFnV,vargs,slotsL,opdsA,Nat.reduceEqDiff,Nat.reduceLT,Nat.reduceAdd,Nat.reduceBEq,Int.reduceAdd,Int.reduceSub,Int.reduceLT,Int.reduceLE,Int.reduceEq,Int.reduceNeg,↓reduceIte,reduceCtorEq,scL,scD,expand,List.replicate])|(refine gC_drawW ?_)|(refine gI_dec (fun _=>?_) (fun _=>?_))|(refine gG_dec (fun _=>?_) (fun _=>?_))|(refine gPG_dec (fun _=>?_) (fun _=>?_))|(refine gI_var (fun _=>?_) (fun _=>?_))|(refine gG_var (fun _=>?_) (fun _=>?_))|(refine gPG_var (fun _=>?_) (fun _=>?_)))
  exact weak_flat rfl h0 rfl
 rw[Bool.not_eq_true] at hg
 rw[hg]
 repeat' (first|(simp (disch:=first|omega|assumption|(refine @id ((_:Bool)=_) ?_;exact id (by with_unfolding_all rfl))|(exact Or.inl rfl)|(exact Or.inl trivial)|(exact okL_map _ (fun _=>rfl) _)|(simp only[VVlen]<;>omega)|fail) only[VV0,VV1,VV2,VV3,VV4,VV5,VV6,VV7,VV8,VV9,mkFnV,vargs,slotsL,opdsA,Nat.reduceEqDiff,Nat.reduceLT,Nat.reduceAdd,Nat.reduceBEq,Int.reduceAdd,Int.reduceSub,Int.reduceLT,Int.reduceLE,Int.reduceEq,Int.reduceNeg,↓reduceIte,reduceCtorEq,scL,scD,expand,List.replicate])|(refine gC_drawW ?_)|(refine gI_dec (fun _=>?_) (fun _=>?_))|(refine gG_dec (fun _=>?_) (fun _=>?_))|(refine gPG_dec (fun _=>?_) (fun _=>?_))|(refine gI_var (fun _=>?_) (fun _=>?_))|(refine gG_var (fun _=>?_) (fun _=>?_))|(refine gPG_var (fun _=>?_) (fun _=>?_)))
 refine callV_flat ((great_p w 7 3 m hm).of hC rfl _ rfl) ?_
 by_cases hg2:great m=true
 ·rw[hg2]
  repeat' (first|(simp (disch:=first|omega|assumption|(refine @id ((_:Bool)=_) ?_;exact id (by with_unfolding_all rfl))|(exact Or.inl rfl)|(exact Or.inl trivial)|(exact okL_map _ (fun _=>rfl) _)|(simp only[VVlen]<;>omega)|fail) only[VV0,VV1,VV2,VV3,VV4,VV5,VV6,VV7,VV8,VV9,mkFnV,vargs,slotsL,opdsA,Nat.reduceEqDiff,Nat.reduceLT,Nat.reduceAdd,Nat.reduceBEq,Int.reduceAdd,Int.reduceSub,Int.reduceLT,Int.reduceLE,Int.reduceEq,Int.reduceNeg,↓reduceIte,reduceCtorEq,scL,scD,expand,List.replicate])|(refine gC_drawW ?_)|(refine gI_dec (fun _=>?_) (fun _=>?_))|(refine gG_dec (fun _=>?_) (fun _=>?_))|(refine gPG_dec (fun _=>?_) (fun _=>?_))|(refine gI_var (fun _=>?_) (fun _=>?_))|(refine gG_var (fun _=>?_) (fun _=>?_))|(refine gPG_var (fun _=>?_) (fun _=>?_)))
  exact weak_flat rfl h0 rfl
 rw[Bool.not_eq_true] at hg2
 rw[hg2]
 have hl41:l.length≤4100:=by simp[great] at hg;omega
 have hR:(runsF l).1.length≤140737488351232:=by
  unfold runsF
  split
  ·have:=runsP_len l l.length;simp only;omega
  ·simp
 have hX1:(crossF l).1.length≤140737488351232∧(crossF l).2.1.length≤140737488351232:=by
  unfold crossF
  split
  ·have:=evs_len l l.length;have:=ods_len l l.length;simp only;omega
  ·simp
 have hX2:(uncF l m).1.length≤140737488351232:=by
  unfold uncF
  repeat' split
  all_goals first|(simp;done)|(rw[unc_len];omega)
 have f2:∀ (H:VHp),frozA [] H=H:=frozA_none
 by_cases hz:l.length=0
 ·have hl0:l= []:=List.eq_nil_of_length_eq_zero hz
  subst hl0
  repeat' (first|(simp (disch:=first|omega|assumption|(refine @id ((_:Bool)=_) ?_;exact id (by with_unfolding_all rfl))|(exact Or.inl rfl)|(exact Or.inl trivial)|(exact okL_map _ (fun _=>rfl) _)|(simp only[VVlen]<;>omega)|fail) only[VV0,VV1,VV2,VV3,VV4,VV5,VV6,VV7,VV8,VV9,mkFnV,vargs,slotsL,opdsA,Nat.reduceEqDiff,Nat.reduceLT,Nat.reduceAdd,Nat.reduceBEq,Int.reduceAdd,Int.reduceSub,Int.reduceLT,Int.reduceLE,Int.reduceEq,Int.reduceNeg,↓reduceIte,reduceCtorEq,scL,scD,expand,List.replicate])|(refine gC_drawW ?_)|(refine gI_dec (fun _=>?_) (fun _=>?_))|(refine gG_dec (fun _=>?_) (fun _=>?_))|(refine gPG_dec (fun _=>?_) (fun _=>?_))|(refine gI_var (fun _=>?_) (fun _=>?_))|(refine gG_var (fun _=>?_) (fun _=>?_))|(refine gPG_var (fun _=>?_) (fun _=>?_)))
  refine callV_of (by rw[hC];exact runs_p w 2 0 (by decide) [] hl) rfl rfl rfl ?_
  repeat' (first|(simp (disch:=first|omega|assumption|(refine @id ((_:Bool)=_) ?_;exact id (by with_unfolding_all rfl))|(exact Or.inl rfl)|(exact Or.inl trivial)|(exact okL_map _ (fun _=>rfl) _)|(simp only[VVlen]<;>omega)|fail) only[VV0,VV1,VV2,VV3,VV4,VV5,VV6,VV7,VV8,VV9,mkFnV,vargs,slotsL,opdsA,Nat.reduceEqDiff,Nat.reduceLT,Nat.reduceAdd,Nat.reduceBEq,Int.reduceAdd,Int.reduceSub,Int.reduceLT,Int.reduceLE,Int.reduceEq,Int.reduceNeg,↓reduceIte,reduceCtorEq,scL,scD,expand,List.replicate,vsh,vshL,shH,shO,fzSL,fzS,f2])|(refine gC_drawW ?_)|(refine gI_dec (fun _=>?_) (fun _=>?_))|(refine gG_dec (fun _=>?_) (fun _=>?_))|(refine gPG_dec (fun _=>?_) (fun _=>?_))|(refine gI_var (fun _=>?_) (fun _=>?_))|(refine gG_var (fun _=>?_) (fun _=>?_))|(refine gPG_var (fun _=>?_) (fun _=>?_)))
  refine callV_of (by rw[hC];exact rruns_p w 6 3 [] hl) rfl rfl rfl ?_
  repeat' (first|(simp (disch:=first|omega|assumption|(refine @id ((_:Bool)=_) ?_;exact id (by with_unfolding_all rfl))|(exact Or.inl rfl)|(exact Or.inl trivial)|(exact okL_map _ (fun _=>rfl) _)|(simp only[VVlen]<;>omega)|fail) only[VV0,VV1,VV2,VV3,VV4,VV5,VV6,VV7,VV8,VV9,mkFnV,vargs,slotsL,opdsA,Nat.reduceEqDiff,Nat.reduceLT,Nat.reduceAdd,Nat.reduceBEq,Int.reduceAdd,Int.reduceSub,Int.reduceLT,Int.reduceLE,Int.reduceEq,Int.reduceNeg,↓reduceIte,reduceCtorEq,scL,scD,expand,List.replicate,vsh,vshL,shH,shO,fzSL,fzS,f2])|(refine gC_drawW ?_)|(refine gI_dec (fun _=>?_) (fun _=>?_))|(refine gG_dec (fun _=>?_) (fun _=>?_))|(refine gPG_dec (fun _=>?_) (fun _=>?_))|(refine gI_var (fun _=>?_) (fun _=>?_))|(refine gG_var (fun _=>?_) (fun _=>?_))|(refine gPG_var (fun _=>?_) (fun _=>?_)))
  refine callV_flat (by rw[hC];exact (text_p w 1 0 (by decide) [] hl).flat rfl rfl) ?_
  repeat' (first|(simp (disch:=first|omega|assumption|(refine @id ((_:Bool)=_) ?_;exact id (by with_unfolding_all rfl))|(exact Or.inl rfl)|(exact Or.inl trivial)|(exact okL_map _ (fun _=>rfl) _)|(simp only[VVlen]<;>omega)|fail) only[VV0,VV1,VV2,VV3,VV4,VV5,VV6,VV7,VV8,VV9,mkFnV,vargs,slotsL,opdsA,Nat.reduceEqDiff,Nat.reduceLT,Nat.reduceAdd,Nat.reduceBEq,Int.reduceAdd,Int.reduceSub,Int.reduceLT,Int.reduceLE,Int.reduceEq,Int.reduceNeg,↓reduceIte,reduceCtorEq,scL,scD,expand,List.replicate])|(refine gC_drawW ?_)|(refine gI_dec (fun _=>?_) (fun _=>?_))|(refine gG_dec (fun _=>?_) (fun _=>?_))|(refine gPG_dec (fun _=>?_) (fun _=>?_))|(refine gI_var (fun _=>?_) (fun _=>?_))|(refine gG_var (fun _=>?_) (fun _=>?_))|(refine gPG_var (fun _=>?_) (fun _=>?_)))
  refine callV_flat (by rw[hC];exact (rtext_p w 5 3 [] hl).flat rfl rfl) ?_
  repeat' (first|(simp (disch:=first|omega|assumption|(refine @id ((_:Bool)=_) ?_;exact id (by with_unfolding_all rfl))|(exact Or.inl rfl)|(exact Or.inl trivial)|(exact okL_map _ (fun _=>rfl) _)|(simp only[VVlen]<;>omega)|fail) only[VV0,VV1,VV2,VV3,VV4,VV5,VV6,VV7,VV8,VV9,mkFnV,vargs,slotsL,opdsA,Nat.reduceEqDiff,Nat.reduceLT,Nat.reduceAdd,Nat.reduceBEq,Int.reduceAdd,Int.reduceSub,Int.reduceLT,Int.reduceLE,Int.reduceEq,Int.reduceNeg,↓reduceIte,reduceCtorEq,scL,scD,expand,List.replicate])|(refine gC_drawW ?_)|(refine gI_dec (fun _=>?_) (fun _=>?_))|(refine gG_dec (fun _=>?_) (fun _=>?_))|(refine gPG_dec (fun _=>?_) (fun _=>?_))|(refine gI_var (fun _=>?_) (fun _=>?_))|(refine gG_var (fun _=>?_) (fun _=>?_))|(refine gPG_var (fun _=>?_) (fun _=>?_)))
  refine callV_flat (by rw[hC];exact (check_p w 3 0 [] hl).flat rfl (rfl)) ?_
  repeat' (first|(simp (disch:=first|omega|assumption|(refine @id ((_:Bool)=_) ?_;exact id (by with_unfolding_all rfl))|(exact Or.inl rfl)|(exact Or.inl trivial)|(exact okL_map _ (fun _=>rfl) _)|(simp only[VVlen]<;>omega)|fail) only[VV0,VV1,VV2,VV3,VV4,VV5,VV6,VV7,VV8,VV9,mkFnV,vargs,slotsL,opdsA,Nat.reduceEqDiff,Nat.reduceLT,Nat.reduceAdd,Nat.reduceBEq,Int.reduceAdd,Int.reduceSub,Int.reduceLT,Int.reduceLE,Int.reduceEq,Int.reduceNeg,↓reduceIte,reduceCtorEq,scL,scD,expand,List.replicate])|(refine gC_drawW ?_)|(refine gI_dec (fun _=>?_) (fun _=>?_))|(refine gG_dec (fun _=>?_) (fun _=>?_))|(refine gPG_dec (fun _=>?_) (fun _=>?_))|(refine gI_var (fun _=>?_) (fun _=>?_))|(refine gG_var (fun _=>?_) (fun _=>?_))|(refine gPG_var (fun _=>?_) (fun _=>?_)))
  refine callV_flat (by rw[hC];exact (rcheck_p w 7 3 [] hl).flat rfl rfl) ?_
  repeat' (first|(simp (disch:=first|omega|assumption|(refine @id ((_:Bool)=_) ?_;exact id (by with_unfolding_all rfl))|(exact Or.inl rfl)|(exact Or.inl trivial)|(exact okL_map _ (fun _=>rfl) _)|(simp only[VVlen]<;>omega)|fail) only[VV0,VV1,VV2,VV3,VV4,VV5,VV6,VV7,VV8,VV9,mkFnV,vargs,slotsL,opdsA,Nat.reduceEqDiff,Nat.reduceLT,Nat.reduceAdd,Nat.reduceBEq,Int.reduceAdd,Int.reduceSub,Int.reduceLT,Int.reduceLE,Int.reduceEq,Int.reduceNeg,↓reduceIte,reduceCtorEq,scL,scD,expand,List.replicate])|(refine gC_drawW ?_)|(refine gI_dec (fun _=>?_) (fun _=>?_))|(refine gG_dec (fun _=>?_) (fun _=>?_))|(refine gPG_dec (fun _=>?_) (fun _=>?_))|(refine gI_var (fun _=>?_) (fun _=>?_))|(refine gG_var (fun _=>?_) (fun _=>?_))|(refine gPG_var (fun _=>?_) (fun _=>?_)))
  refine callV_flat (by rw[hC];exact (sameRuns_p w 7 3 3 (runsF []).1 hR).flat rfl rfl) ?_
  repeat' (first|(simp (disch:=first|omega|assumption|(refine @id ((_:Bool)=_) ?_;exact id (by with_unfolding_all rfl))|(exact Or.inl rfl)|(exact Or.inl trivial)|(exact okL_map _ (fun _=>rfl) _)|(simp only[VVlen]<;>omega)|fail) only[VV0,VV1,VV2,VV3,VV4,VV5,VV6,VV7,VV8,VV9,mkFnV,vargs,slotsL,opdsA,Nat.reduceEqDiff,Nat.reduceLT,Nat.reduceAdd,Nat.reduceBEq,Int.reduceAdd,Int.reduceSub,Int.reduceLT,Int.reduceLE,Int.reduceEq,Int.reduceNeg,↓reduceIte,reduceCtorEq,scL,scD,expand,List.replicate])|(refine gC_drawW ?_)|(refine gI_dec (fun _=>?_) (fun _=>?_))|(refine gG_dec (fun _=>?_) (fun _=>?_))|(refine gPG_dec (fun _=>?_) (fun _=>?_))|(refine gI_var (fun _=>?_) (fun _=>?_))|(refine gG_var (fun _=>?_) (fun _=>?_))|(refine gPG_var (fun _=>?_) (fun _=>?_)))
  refine callV_of (by rw[hC];exact cross_p w 2 0 [] hl) (rfl) rfl rfl ?_
  repeat' (first|(simp (disch:=first|omega|assumption|(refine @id ((_:Bool)=_) ?_;exact id (by with_unfolding_all rfl))|(exact Or.inl rfl)|(exact Or.inl trivial)|(exact okL_map _ (fun _=>rfl) _)|(simp only[VVlen]<;>omega)|fail) only[VV0,VV1,VV2,VV3,VV4,VV5,VV6,VV7,VV8,VV9,mkFnV,vargs,slotsL,opdsA,Nat.reduceEqDiff,Nat.reduceLT,Nat.reduceAdd,Nat.reduceBEq,Int.reduceAdd,Int.reduceSub,Int.reduceLT,Int.reduceLE,Int.reduceEq,Int.reduceNeg,↓reduceIte,reduceCtorEq,scL,scD,expand,List.replicate,vsh,vshL,shH,shO,fzSL,fzS,f2])|(refine gC_drawW ?_)|(refine gI_dec (fun _=>?_) (fun _=>?_))|(refine gG_dec (fun _=>?_) (fun _=>?_))|(refine gPG_dec (fun _=>?_) (fun _=>?_))|(refine gI_var (fun _=>?_) (fun _=>?_))|(refine gG_var (fun _=>?_) (fun _=>?_))|(refine gPG_var (fun _=>?_) (fun _=>?_)))
  refine callV_of (by rw[hC];exact rcross_p w 6 3 [] hl) rfl rfl rfl ?_
  repeat' (first|(simp (disch:=first|omega|assumption|(refine @id ((_:Bool)=_) ?_;exact id (by with_unfolding_all rfl))|(exact Or.inl rfl)|(exact Or.inl trivial)|(exact okL_map _ (fun _=>rfl) _)|(simp only[VVlen]<;>omega)|fail) only[VV0,VV1,VV2,VV3,VV4,VV5,VV6,VV7,VV8,VV9,mkFnV,vargs,slotsL,opdsA,Nat.reduceEqDiff,Nat.reduceLT,Nat.reduceAdd,Nat.reduceBEq,Int.reduceAdd,Int.reduceSub,Int.reduceLT,Int.reduceLE,Int.reduceEq,Int.reduceNeg,↓reduceIte,reduceCtorEq,scL,scD,expand,List.replicate,vsh,vshL,shH,shO,fzSL,fzS,f2])|(refine gC_drawW ?_)|(refine gI_dec (fun _=>?_) (fun _=>?_))|(refine gG_dec (fun _=>?_) (fun _=>?_))|(refine gPG_dec (fun _=>?_) (fun _=>?_))|(refine gI_var (fun _=>?_) (fun _=>?_))|(refine gG_var (fun _=>?_) (fun _=>?_))|(refine gPG_var (fun _=>?_) (fun _=>?_)))
  refine callV_of (by rw[hC];exact uncross_p w 2 0 3 [] m hl hm) (rfl) rfl rfl ?_
  repeat' (first|(simp (disch:=first|omega|assumption|(refine @id ((_:Bool)=_) ?_;exact id (by with_unfolding_all rfl))|(exact Or.inl rfl)|(exact Or.inl trivial)|(exact okL_map _ (fun _=>rfl) _)|(simp only[VVlen]<;>omega)|fail) only[VV0,VV1,VV2,VV3,VV4,VV5,VV6,VV7,VV8,VV9,mkFnV,vargs,slotsL,opdsA,Nat.reduceEqDiff,Nat.reduceLT,Nat.reduceAdd,Nat.reduceBEq,Int.reduceAdd,Int.reduceSub,Int.reduceLT,Int.reduceLE,Int.reduceEq,Int.reduceNeg,↓reduceIte,reduceCtorEq,scL,scD,expand,List.replicate,vsh,vshL,shH,shO,fzSL,fzS,f2])|(refine gC_drawW ?_)|(refine gI_dec (fun _=>?_) (fun _=>?_))|(refine gG_dec (fun _=>?_) (fun _=>?_))|(refine gPG_dec (fun _=>?_) (fun _=>?_))|(refine gI_var (fun _=>?_) (fun _=>?_))|(refine gG_var (fun _=>?_) (fun _=>?_))|(refine gPG_var (fun _=>?_) (fun _=>?_)))
  refine callV_of (by rw[hC];exact runcross_p w 6 3 3 [] m hl hm) rfl rfl rfl ?_
  repeat' (first|(simp (disch:=first|omega|assumption|(refine @id ((_:Bool)=_) ?_;exact id (by with_unfolding_all rfl))|(exact Or.inl rfl)|(exact Or.inl trivial)|(exact okL_map _ (fun _=>rfl) _)|(simp only[VVlen]<;>omega)|fail) only[VV0,VV1,VV2,VV3,VV4,VV5,VV6,VV7,VV8,VV9,mkFnV,vargs,slotsL,opdsA,Nat.reduceEqDiff,Nat.reduceLT,Nat.reduceAdd,Nat.reduceBEq,Int.reduceAdd,Int.reduceSub,Int.reduceLT,Int.reduceLE,Int.reduceEq,Int.reduceNeg,↓reduceIte,reduceCtorEq,scL,scD,expand,List.replicate,vsh,vshL,shH,shO,fzSL,fzS,f2])|(refine gC_drawW ?_)|(refine gI_dec (fun _=>?_) (fun _=>?_))|(refine gG_dec (fun _=>?_) (fun _=>?_))|(refine gPG_dec (fun _=>?_) (fun _=>?_))|(refine gI_var (fun _=>?_) (fun _=>?_))|(refine gG_var (fun _=>?_) (fun _=>?_))|(refine gPG_var (fun _=>?_) (fun _=>?_)))
  refine callV_flat (by rw[hC];exact (same_p w 7 3 3 (crossF []).1 (by omega)).flat rfl rfl) ?_
  repeat' (first|(simp (disch:=first|omega|assumption|(refine @id ((_:Bool)=_) ?_;exact id (by with_unfolding_all rfl))|(exact Or.inl rfl)|(exact Or.inl trivial)|(exact okL_map _ (fun _=>rfl) _)|(simp only[VVlen]<;>omega)|fail) only[VV0,VV1,VV2,VV3,VV4,VV5,VV6,VV7,VV8,VV9,mkFnV,vargs,slotsL,opdsA,Nat.reduceEqDiff,Nat.reduceLT,Nat.reduceAdd,Nat.reduceBEq,Int.reduceAdd,Int.reduceSub,Int.reduceLT,Int.reduceLE,Int.reduceEq,Int.reduceNeg,↓reduceIte,reduceCtorEq,scL,scD,expand,List.replicate])|(refine gC_drawW ?_)|(refine gI_dec (fun _=>?_) (fun _=>?_))|(refine gG_dec (fun _=>?_) (fun _=>?_))|(refine gPG_dec (fun _=>?_) (fun _=>?_))|(refine gI_var (fun _=>?_) (fun _=>?_))|(refine gG_var (fun _=>?_) (fun _=>?_))|(refine gPG_var (fun _=>?_) (fun _=>?_)))
  refine callV_flat (by rw[hC];exact (same_p w 7 3 3 (crossF []).2.1 (by omega)).flat rfl rfl) ?_
  repeat' (first|(simp (disch:=first|omega|assumption|(refine @id ((_:Bool)=_) ?_;exact id (by with_unfolding_all rfl))|(exact Or.inl rfl)|(exact Or.inl trivial)|(exact okL_map _ (fun _=>rfl) _)|(simp only[VVlen]<;>omega)|fail) only[VV0,VV1,VV2,VV3,VV4,VV5,VV6,VV7,VV8,VV9,mkFnV,vargs,slotsL,opdsA,Nat.reduceEqDiff,Nat.reduceLT,Nat.reduceAdd,Nat.reduceBEq,Int.reduceAdd,Int.reduceSub,Int.reduceLT,Int.reduceLE,Int.reduceEq,Int.reduceNeg,↓reduceIte,reduceCtorEq,scL,scD,expand,List.replicate])|(refine gC_drawW ?_)|(refine gI_dec (fun _=>?_) (fun _=>?_))|(refine gG_dec (fun _=>?_) (fun _=>?_))|(refine gPG_dec (fun _=>?_) (fun _=>?_))|(refine gI_var (fun _=>?_) (fun _=>?_))|(refine gG_var (fun _=>?_) (fun _=>?_))|(refine gPG_var (fun _=>?_) (fun _=>?_)))
  refine callV_flat (by rw[hC];exact (same_p w 7 3 3 (uncF [] m).1 (by omega)).flat rfl rfl) ?_
  repeat' (first|(simp (disch:=first|omega|assumption|(refine @id ((_:Bool)=_) ?_;exact id (by with_unfolding_all rfl))|(exact Or.inl rfl)|(exact Or.inl trivial)|(exact okL_map _ (fun _=>rfl) _)|(simp only[VVlen]<;>omega)|fail) only[VV0,VV1,VV2,VV3,VV4,VV5,VV6,VV7,VV8,VV9,mkFnV,vargs,slotsL,opdsA,Nat.reduceEqDiff,Nat.reduceLT,Nat.reduceAdd,Nat.reduceBEq,Int.reduceAdd,Int.reduceSub,Int.reduceLT,Int.reduceLE,Int.reduceEq,Int.reduceNeg,↓reduceIte,reduceCtorEq,scL,scD,expand,List.replicate])|(refine gC_drawW ?_)|(refine gI_dec (fun _=>?_) (fun _=>?_))|(refine gG_dec (fun _=>?_) (fun _=>?_))|(refine gPG_dec (fun _=>?_) (fun _=>?_))|(refine gI_var (fun _=>?_) (fun _=>?_))|(refine gG_var (fun _=>?_) (fun _=>?_))|(refine gPG_var (fun _=>?_) (fun _=>?_)))
  refine callV_flat (by rw[hC];exact (same_p w 7 0 3 [] hl).flat rfl (rfl)) ?_
  repeat' (first|(simp (disch:=first|omega|assumption|(refine @id ((_:Bool)=_) ?_;exact id (by with_unfolding_all rfl))|(exact Or.inl rfl)|(exact Or.inl trivial)|(exact okL_map _ (fun _=>rfl) _)|(simp only[VVlen]<;>omega)|fail) only[VV0,VV1,VV2,VV3,VV4,VV5,VV6,VV7,VV8,VV9,mkFnV,vargs,slotsL,opdsA,Nat.reduceEqDiff,Nat.reduceLT,Nat.reduceAdd,Nat.reduceBEq,Int.reduceAdd,Int.reduceSub,Int.reduceLT,Int.reduceLE,Int.reduceEq,Int.reduceNeg,↓reduceIte,reduceCtorEq,scL,scD,expand,List.replicate])|(refine gC_drawW ?_)|(refine gI_dec (fun _=>?_) (fun _=>?_))|(refine gG_dec (fun _=>?_) (fun _=>?_))|(refine gPG_dec (fun _=>?_) (fun _=>?_))|(refine gI_var (fun _=>?_) (fun _=>?_))|(refine gG_var (fun _=>?_) (fun _=>?_))|(refine gPG_var (fun _=>?_) (fun _=>?_)))
  exact weak_flat rfl h0 rfl
 ·repeat' (first|(simp (disch:=first|omega|assumption|(refine @id ((_:Bool)=_) ?_;exact id (by with_unfolding_all rfl))|(exact Or.inl rfl)|(exact Or.inl trivial)|(exact okL_map _ (fun _=>rfl) _)|(simp only[VVlen]<;>omega)|fail) only[VV0,VV1,VV2,VV3,VV4,VV5,VV6,VV7,VV8,VV9,mkFnV,vargs,slotsL,opdsA,Nat.reduceEqDiff,Nat.reduceLT,Nat.reduceAdd,Nat.reduceBEq,Int.reduceAdd,Int.reduceSub,Int.reduceLT,Int.reduceLE,Int.reduceEq,Int.reduceNeg,↓reduceIte,reduceCtorEq,scL,scD,expand,List.replicate])|(refine gC_drawW ?_)|(refine gI_dec (fun _=>?_) (fun _=>?_))|(refine gG_dec (fun _=>?_) (fun _=>?_))|(refine gPG_dec (fun _=>?_) (fun _=>?_))|(refine gI_var (fun _=>?_) (fun _=>?_))|(refine gG_var (fun _=>?_) (fun _=>?_))|(refine gPG_var (fun _=>?_) (fun _=>?_)))
  refine callV_of (by rw[hC];exact runs_p w 2 2 (by decide) l hl) (snap1 _ _) rfl rfl ?_
  repeat' (first|(simp (disch:=first|omega|assumption|(refine @id ((_:Bool)=_) ?_;exact id (by with_unfolding_all rfl))|(exact Or.inl rfl)|(exact Or.inl trivial)|(exact okL_map _ (fun _=>rfl) _)|(simp only[VVlen]<;>omega)|fail) only[VV0,VV1,VV2,VV3,VV4,VV5,VV6,VV7,VV8,VV9,mkFnV,vargs,slotsL,opdsA,Nat.reduceEqDiff,Nat.reduceLT,Nat.reduceAdd,Nat.reduceBEq,Int.reduceAdd,Int.reduceSub,Int.reduceLT,Int.reduceLE,Int.reduceEq,Int.reduceNeg,↓reduceIte,reduceCtorEq,scL,scD,expand,List.replicate,vsh,vshL,shH,shO,fzSL,fzS,f2])|(refine gC_drawW ?_)|(refine gI_dec (fun _=>?_) (fun _=>?_))|(refine gG_dec (fun _=>?_) (fun _=>?_))|(refine gPG_dec (fun _=>?_) (fun _=>?_))|(refine gI_var (fun _=>?_) (fun _=>?_))|(refine gG_var (fun _=>?_) (fun _=>?_))|(refine gPG_var (fun _=>?_) (fun _=>?_)))
  refine callV_of (by rw[hC];exact rruns_p w 6 3 l hl) rfl rfl rfl ?_
  repeat' (first|(simp (disch:=first|omega|assumption|(refine @id ((_:Bool)=_) ?_;exact id (by with_unfolding_all rfl))|(exact Or.inl rfl)|(exact Or.inl trivial)|(exact okL_map _ (fun _=>rfl) _)|(simp only[VVlen]<;>omega)|fail) only[VV0,VV1,VV2,VV3,VV4,VV5,VV6,VV7,VV8,VV9,mkFnV,vargs,slotsL,opdsA,Nat.reduceEqDiff,Nat.reduceLT,Nat.reduceAdd,Nat.reduceBEq,Int.reduceAdd,Int.reduceSub,Int.reduceLT,Int.reduceLE,Int.reduceEq,Int.reduceNeg,↓reduceIte,reduceCtorEq,scL,scD,expand,List.replicate,vsh,vshL,shH,shO,fzSL,fzS,f2])|(refine gC_drawW ?_)|(refine gI_dec (fun _=>?_) (fun _=>?_))|(refine gG_dec (fun _=>?_) (fun _=>?_))|(refine gPG_dec (fun _=>?_) (fun _=>?_))|(refine gI_var (fun _=>?_) (fun _=>?_))|(refine gG_var (fun _=>?_) (fun _=>?_))|(refine gPG_var (fun _=>?_) (fun _=>?_)))
  refine callV_flat (by rw[hC];exact (text_p w 1 2 (by decide) l hl).flat rfl (snap1 _ _)) ?_
  repeat' (first|(simp (disch:=first|omega|assumption|(refine @id ((_:Bool)=_) ?_;exact id (by with_unfolding_all rfl))|(exact Or.inl rfl)|(exact Or.inl trivial)|(exact okL_map _ (fun _=>rfl) _)|(simp only[VVlen]<;>omega)|fail) only[VV0,VV1,VV2,VV3,VV4,VV5,VV6,VV7,VV8,VV9,mkFnV,vargs,slotsL,opdsA,Nat.reduceEqDiff,Nat.reduceLT,Nat.reduceAdd,Nat.reduceBEq,Int.reduceAdd,Int.reduceSub,Int.reduceLT,Int.reduceLE,Int.reduceEq,Int.reduceNeg,↓reduceIte,reduceCtorEq,scL,scD,expand,List.replicate])|(refine gC_drawW ?_)|(refine gI_dec (fun _=>?_) (fun _=>?_))|(refine gG_dec (fun _=>?_) (fun _=>?_))|(refine gPG_dec (fun _=>?_) (fun _=>?_))|(refine gI_var (fun _=>?_) (fun _=>?_))|(refine gG_var (fun _=>?_) (fun _=>?_))|(refine gPG_var (fun _=>?_) (fun _=>?_)))
  refine callV_flat (by rw[hC];exact (rtext_p w 5 3 l hl).flat rfl rfl) ?_
  repeat' (first|(simp (disch:=first|omega|assumption|(refine @id ((_:Bool)=_) ?_;exact id (by with_unfolding_all rfl))|(exact Or.inl rfl)|(exact Or.inl trivial)|(exact okL_map _ (fun _=>rfl) _)|(simp only[VVlen]<;>omega)|fail) only[VV0,VV1,VV2,VV3,VV4,VV5,VV6,VV7,VV8,VV9,mkFnV,vargs,slotsL,opdsA,Nat.reduceEqDiff,Nat.reduceLT,Nat.reduceAdd,Nat.reduceBEq,Int.reduceAdd,Int.reduceSub,Int.reduceLT,Int.reduceLE,Int.reduceEq,Int.reduceNeg,↓reduceIte,reduceCtorEq,scL,scD,expand,List.replicate])|(refine gC_drawW ?_)|(refine gI_dec (fun _=>?_) (fun _=>?_))|(refine gG_dec (fun _=>?_) (fun _=>?_))|(refine gPG_dec (fun _=>?_) (fun _=>?_))|(refine gI_var (fun _=>?_) (fun _=>?_))|(refine gG_var (fun _=>?_) (fun _=>?_))|(refine gPG_var (fun _=>?_) (fun _=>?_)))
  refine callV_flat (by rw[hC];exact (check_p w 3 2 l hl).flat rfl (snap1 _ _)) ?_
  repeat' (first|(simp (disch:=first|omega|assumption|(refine @id ((_:Bool)=_) ?_;exact id (by with_unfolding_all rfl))|(exact Or.inl rfl)|(exact Or.inl trivial)|(exact okL_map _ (fun _=>rfl) _)|(simp only[VVlen]<;>omega)|fail) only[VV0,VV1,VV2,VV3,VV4,VV5,VV6,VV7,VV8,VV9,mkFnV,vargs,slotsL,opdsA,Nat.reduceEqDiff,Nat.reduceLT,Nat.reduceAdd,Nat.reduceBEq,Int.reduceAdd,Int.reduceSub,Int.reduceLT,Int.reduceLE,Int.reduceEq,Int.reduceNeg,↓reduceIte,reduceCtorEq,scL,scD,expand,List.replicate])|(refine gC_drawW ?_)|(refine gI_dec (fun _=>?_) (fun _=>?_))|(refine gG_dec (fun _=>?_) (fun _=>?_))|(refine gPG_dec (fun _=>?_) (fun _=>?_))|(refine gI_var (fun _=>?_) (fun _=>?_))|(refine gG_var (fun _=>?_) (fun _=>?_))|(refine gPG_var (fun _=>?_) (fun _=>?_)))
  refine callV_flat (by rw[hC];exact (rcheck_p w 7 3 l hl).flat rfl rfl) ?_
  repeat' (first|(simp (disch:=first|omega|assumption|(refine @id ((_:Bool)=_) ?_;exact id (by with_unfolding_all rfl))|(exact Or.inl rfl)|(exact Or.inl trivial)|(exact okL_map _ (fun _=>rfl) _)|(simp only[VVlen]<;>omega)|fail) only[VV0,VV1,VV2,VV3,VV4,VV5,VV6,VV7,VV8,VV9,mkFnV,vargs,slotsL,opdsA,Nat.reduceEqDiff,Nat.reduceLT,Nat.reduceAdd,Nat.reduceBEq,Int.reduceAdd,Int.reduceSub,Int.reduceLT,Int.reduceLE,Int.reduceEq,Int.reduceNeg,↓reduceIte,reduceCtorEq,scL,scD,expand,List.replicate])|(refine gC_drawW ?_)|(refine gI_dec (fun _=>?_) (fun _=>?_))|(refine gG_dec (fun _=>?_) (fun _=>?_))|(refine gPG_dec (fun _=>?_) (fun _=>?_))|(refine gI_var (fun _=>?_) (fun _=>?_))|(refine gG_var (fun _=>?_) (fun _=>?_))|(refine gPG_var (fun _=>?_) (fun _=>?_)))
  refine callV_flat (by rw[hC];exact (sameRuns_p w 7 3 3 (runsF l).1 hR).flat rfl rfl) ?_
  repeat' (first|(simp (disch:=first|omega|assumption|(refine @id ((_:Bool)=_) ?_;exact id (by with_unfolding_all rfl))|(exact Or.inl rfl)|(exact Or.inl trivial)|(exact okL_map _ (fun _=>rfl) _)|(simp only[VVlen]<;>omega)|fail) only[VV0,VV1,VV2,VV3,VV4,VV5,VV6,VV7,VV8,VV9,mkFnV,vargs,slotsL,opdsA,Nat.reduceEqDiff,Nat.reduceLT,Nat.reduceAdd,Nat.reduceBEq,Int.reduceAdd,Int.reduceSub,Int.reduceLT,Int.reduceLE,Int.reduceEq,Int.reduceNeg,↓reduceIte,reduceCtorEq,scL,scD,expand,List.replicate])|(refine gC_drawW ?_)|(refine gI_dec (fun _=>?_) (fun _=>?_))|(refine gG_dec (fun _=>?_) (fun _=>?_))|(refine gPG_dec (fun _=>?_) (fun _=>?_))|(refine gI_var (fun _=>?_) (fun _=>?_))|(refine gG_var (fun _=>?_) (fun _=>?_))|(refine gPG_var (fun _=>?_) (fun _=>?_)))
  refine callV_of (by rw[hC];exact cross_p w 2 2 l hl) (snap1 _ _) rfl rfl ?_
  repeat' (first|(simp (disch:=first|omega|assumption|(refine @id ((_:Bool)=_) ?_;exact id (by with_unfolding_all rfl))|(exact Or.inl rfl)|(exact Or.inl trivial)|(exact okL_map _ (fun _=>rfl) _)|(simp only[VVlen]<;>omega)|fail) only[VV0,VV1,VV2,VV3,VV4,VV5,VV6,VV7,VV8,VV9,mkFnV,vargs,slotsL,opdsA,Nat.reduceEqDiff,Nat.reduceLT,Nat.reduceAdd,Nat.reduceBEq,Int.reduceAdd,Int.reduceSub,Int.reduceLT,Int.reduceLE,Int.reduceEq,Int.reduceNeg,↓reduceIte,reduceCtorEq,scL,scD,expand,List.replicate,vsh,vshL,shH,shO,fzSL,fzS,f2])|(refine gC_drawW ?_)|(refine gI_dec (fun _=>?_) (fun _=>?_))|(refine gG_dec (fun _=>?_) (fun _=>?_))|(refine gPG_dec (fun _=>?_) (fun _=>?_))|(refine gI_var (fun _=>?_) (fun _=>?_))|(refine gG_var (fun _=>?_) (fun _=>?_))|(refine gPG_var (fun _=>?_) (fun _=>?_)))
  refine callV_of (by rw[hC];exact rcross_p w 6 3 l hl) rfl rfl rfl ?_
  repeat' (first|(simp (disch:=first|omega|assumption|(refine @id ((_:Bool)=_) ?_;exact id (by with_unfolding_all rfl))|(exact Or.inl rfl)|(exact Or.inl trivial)|(exact okL_map _ (fun _=>rfl) _)|(simp only[VVlen]<;>omega)|fail) only[VV0,VV1,VV2,VV3,VV4,VV5,VV6,VV7,VV8,VV9,mkFnV,vargs,slotsL,opdsA,Nat.reduceEqDiff,Nat.reduceLT,Nat.reduceAdd,Nat.reduceBEq,Int.reduceAdd,Int.reduceSub,Int.reduceLT,Int.reduceLE,Int.reduceEq,Int.reduceNeg,↓reduceIte,reduceCtorEq,scL,scD,expand,List.replicate,vsh,vshL,shH,shO,fzSL,fzS,f2])|(refine gC_drawW ?_)|(refine gI_dec (fun _=>?_) (fun _=>?_))|(refine gG_dec (fun _=>?_) (fun _=>?_))|(refine gPG_dec (fun _=>?_) (fun _=>?_))|(refine gI_var (fun _=>?_) (fun _=>?_))|(refine gG_var (fun _=>?_) (fun _=>?_))|(refine gPG_var (fun _=>?_) (fun _=>?_)))
  refine callV_of (by rw[hC];exact uncross_p w 2 2 3 l m hl hm) (snap2 _ _ _ _ _) rfl rfl ?_
  repeat' (first|(simp (disch:=first|omega|assumption|(refine @id ((_:Bool)=_) ?_;exact id (by with_unfolding_all rfl))|(exact Or.inl rfl)|(exact Or.inl trivial)|(exact okL_map _ (fun _=>rfl) _)|(simp only[VVlen]<;>omega)|fail) only[VV0,VV1,VV2,VV3,VV4,VV5,VV6,VV7,VV8,VV9,mkFnV,vargs,slotsL,opdsA,Nat.reduceEqDiff,Nat.reduceLT,Nat.reduceAdd,Nat.reduceBEq,Int.reduceAdd,Int.reduceSub,Int.reduceLT,Int.reduceLE,Int.reduceEq,Int.reduceNeg,↓reduceIte,reduceCtorEq,scL,scD,expand,List.replicate,vsh,vshL,shH,shO,fzSL,fzS,f2])|(refine gC_drawW ?_)|(refine gI_dec (fun _=>?_) (fun _=>?_))|(refine gG_dec (fun _=>?_) (fun _=>?_))|(refine gPG_dec (fun _=>?_) (fun _=>?_))|(refine gI_var (fun _=>?_) (fun _=>?_))|(refine gG_var (fun _=>?_) (fun _=>?_))|(refine gPG_var (fun _=>?_) (fun _=>?_)))
  refine callV_of (by rw[hC];exact runcross_p w 6 3 3 l m hl hm) rfl rfl rfl ?_
  repeat' (first|(simp (disch:=first|omega|assumption|(refine @id ((_:Bool)=_) ?_;exact id (by with_unfolding_all rfl))|(exact Or.inl rfl)|(exact Or.inl trivial)|(exact okL_map _ (fun _=>rfl) _)|(simp only[VVlen]<;>omega)|fail) only[VV0,VV1,VV2,VV3,VV4,VV5,VV6,VV7,VV8,VV9,mkFnV,vargs,slotsL,opdsA,Nat.reduceEqDiff,Nat.reduceLT,Nat.reduceAdd,Nat.reduceBEq,Int.reduceAdd,Int.reduceSub,Int.reduceLT,Int.reduceLE,Int.reduceEq,Int.reduceNeg,↓reduceIte,reduceCtorEq,scL,scD,expand,List.replicate,vsh,vshL,shH,shO,fzSL,fzS,f2])|(refine gC_drawW ?_)|(refine gI_dec (fun _=>?_) (fun _=>?_))|(refine gG_dec (fun _=>?_) (fun _=>?_))|(refine gPG_dec (fun _=>?_) (fun _=>?_))|(refine gI_var (fun _=>?_) (fun _=>?_))|(refine gG_var (fun _=>?_) (fun _=>?_))|(refine gPG_var (fun _=>?_) (fun _=>?_)))
  refine callV_flat (by rw[hC];exact (same_p w 7 3 3 (crossF l).1 (by omega)).flat rfl rfl) ?_
  repeat' (first|(simp (disch:=first|omega|assumption|(refine @id ((_:Bool)=_) ?_;exact id (by with_unfolding_all rfl))|(exact Or.inl rfl)|(exact Or.inl trivial)|(exact okL_map _ (fun _=>rfl) _)|(simp only[VVlen]<;>omega)|fail) only[VV0,VV1,VV2,VV3,VV4,VV5,VV6,VV7,VV8,VV9,mkFnV,vargs,slotsL,opdsA,Nat.reduceEqDiff,Nat.reduceLT,Nat.reduceAdd,Nat.reduceBEq,Int.reduceAdd,Int.reduceSub,Int.reduceLT,Int.reduceLE,Int.reduceEq,Int.reduceNeg,↓reduceIte,reduceCtorEq,scL,scD,expand,List.replicate])|(refine gC_drawW ?_)|(refine gI_dec (fun _=>?_) (fun _=>?_))|(refine gG_dec (fun _=>?_) (fun _=>?_))|(refine gPG_dec (fun _=>?_) (fun _=>?_))|(refine gI_var (fun _=>?_) (fun _=>?_))|(refine gG_var (fun _=>?_) (fun _=>?_))|(refine gPG_var (fun _=>?_) (fun _=>?_)))
  refine callV_flat (by rw[hC];exact (same_p w 7 3 3 (crossF l).2.1 (by omega)).flat rfl rfl) ?_
  repeat' (first|(simp (disch:=first|omega|assumption|(refine @id ((_:Bool)=_) ?_;exact id (by with_unfolding_all rfl))|(exact Or.inl rfl)|(exact Or.inl trivial)|(exact okL_map _ (fun _=>rfl) _)|(simp only[VVlen]<;>omega)|fail) only[VV0,VV1,VV2,VV3,VV4,VV5,VV6,VV7,VV8,VV9,mkFnV,vargs,slotsL,opdsA,Nat.reduceEqDiff,Nat.reduceLT,Nat.reduceAdd,Nat.reduceBEq,Int.reduceAdd,Int.reduceSub,Int.reduceLT,Int.reduceLE,Int.reduceEq,Int.reduceNeg,↓reduceIte,reduceCtorEq,scL,scD,expand,List.replicate])|(refine gC_drawW ?_)|(refine gI_dec (fun _=>?_) (fun _=>?_))|(refine gG_dec (fun _=>?_) (fun _=>?_))|(refine gPG_dec (fun _=>?_) (fun _=>?_))|(refine gI_var (fun _=>?_) (fun _=>?_))|(refine gG_var (fun _=>?_) (fun _=>?_))|(refine gPG_var (fun _=>?_) (fun _=>?_)))
  refine callV_flat (by rw[hC];exact (same_p w 7 3 3 (uncF l m).1 (by omega)).flat rfl rfl) ?_
  repeat' (first|(simp (disch:=first|omega|assumption|(refine @id ((_:Bool)=_) ?_;exact id (by with_unfolding_all rfl))|(exact Or.inl rfl)|(exact Or.inl trivial)|(exact okL_map _ (fun _=>rfl) _)|(simp only[VVlen]<;>omega)|fail) only[VV0,VV1,VV2,VV3,VV4,VV5,VV6,VV7,VV8,VV9,mkFnV,vargs,slotsL,opdsA,Nat.reduceEqDiff,Nat.reduceLT,Nat.reduceAdd,Nat.reduceBEq,Int.reduceAdd,Int.reduceSub,Int.reduceLT,Int.reduceLE,Int.reduceEq,Int.reduceNeg,↓reduceIte,reduceCtorEq,scL,scD,expand,List.replicate])|(refine gC_drawW ?_)|(refine gI_dec (fun _=>?_) (fun _=>?_))|(refine gG_dec (fun _=>?_) (fun _=>?_))|(refine gPG_dec (fun _=>?_) (fun _=>?_))|(refine gI_var (fun _=>?_) (fun _=>?_))|(refine gG_var (fun _=>?_) (fun _=>?_))|(refine gPG_var (fun _=>?_) (fun _=>?_)))
  refine callV_flat (by rw[hC];exact (same_p w 7 2 3 l hl).flat rfl (snap2 _ _ _ _ _)) ?_
  repeat' (first|(simp (disch:=first|omega|assumption|(refine @id ((_:Bool)=_) ?_;exact id (by with_unfolding_all rfl))|(exact Or.inl rfl)|(exact Or.inl trivial)|(exact okL_map _ (fun _=>rfl) _)|(simp only[VVlen]<;>omega)|fail) only[VV0,VV1,VV2,VV3,VV4,VV5,VV6,VV7,VV8,VV9,mkFnV,vargs,slotsL,opdsA,Nat.reduceEqDiff,Nat.reduceLT,Nat.reduceAdd,Nat.reduceBEq,Int.reduceAdd,Int.reduceSub,Int.reduceLT,Int.reduceLE,Int.reduceEq,Int.reduceNeg,↓reduceIte,reduceCtorEq,scL,scD,expand,List.replicate])|(refine gC_drawW ?_)|(refine gI_dec (fun _=>?_) (fun _=>?_))|(refine gG_dec (fun _=>?_) (fun _=>?_))|(refine gPG_dec (fun _=>?_) (fun _=>?_))|(refine gI_var (fun _=>?_) (fun _=>?_))|(refine gG_var (fun _=>?_) (fun _=>?_))|(refine gPG_var (fun _=>?_) (fun _=>?_)))
  exact weak_flat rfl h0 rfl
end Go.Proofs.YtgglaaldlegckaaDoor
namespace Go.Proofs.YtgglaaldlegckaaDoor
open Go Go.Itp
open Go.ChangeShapes Go.WideShapes Go.ChangeAt Go.RowKit
set_option linter.unusedVariables false
set_option maxRecDepth 100000
set_option maxHeartbeats 4000000
theorem reach_lt:reachBytes≤140737488351232:=by decide
theorem cellsI:Tryd.prog.cellsOf 3=1:=by kernel_rfl
theorem bytesI:Tryd.prog.bytesOf 3=8:=by kernel_rfl
def listed:List (String × DataW Unit):= [("math/bits.deBruijn32tab",Rows.laid_math_bits_deBruijn32tab),("math/bits.deBruijn64tab",Rows.laid_math_bits_deBruijn64tab),("internal/strconv.uint64pow10",Rows.laid_internal_strconv_uint64pow10)]
theorem listed_met (os:Os) (args:Array Value):laidMetH Tryd.prog listed ((World.laidAll Tryd.prog os listed).forCall (fun _ _=>0) ⟨#[],args,[]⟩).memory:=by
 rw[MakeChecks.laidMetH_plain _ _ _ (by kernel_rfl)]
 exact laidMet_laidAll _ (by kernel_rfl) (by kernel_rfl)
theorem listed_shaped (os:Os):(World.laidAll Tryd.prog os listed).Shaped Tryd.prog:=World.shaped_of_ZipB (by kernel_rfl) (by kernel_rfl)
theorem stand_ins {l:List TypeId} {t:TypeId} (hall:(l.all fun u=> !Tryd.prog.wantsStandIn u)=true) (h:t ∈ l):Tryd.prog.wantsStandIn t=false:=by
 have:=List.all_eq_true.1 hall t h
 simpa using this
theorem orders_lifted (os:Os) (started:os.Started) (H:Type) (enc:TypeId × Value→H):
  ReturnsInHanded {} Tryd.checked os 3 .any (fun w args=>(Rows.warpOrdersSpec.pre enc Tryd.prog Tryd.f3 [] false w args∧laidMetH Tryd.prog listed w)∧sizedMet enc Tryd.prog Tryd.f3 (OpenSpec.ofChange Rows.warpOrdersSpec) false w args)
   (Rows.warpOrdersSpec.post enc Tryd.prog Tryd.f3 false true false false):=by
 refine returnsInHanded_of_change_and (C:=Tryd.checked) (X:=fun w _=>laidMetH Tryd.prog listed w) (fun _ _ _ hh h=>h.of_heap hh) own started (by kernel_rfl) Tryd.func3
  (ChangeSpec.witness_shaped (enc:=enc) (C:=Tryd.checked) (os:=os) (X:=fun w _=>laidMetH Tryd.prog listed w) false (World.laidAll Tryd.prog os listed) #[.slice none 0 0,.slice none 0 0] 8 (World.laidAll_os _ _ _) (listed_shaped os) (by kernel_rfl) (by kernel_rfl) (by kernel_rfl) (listed_met os _)) ?_
 intro W base args ds gs before hval0 hW _ hsz0 hL _
 have hval:∀ (j:Nat) t v,Tryd.f3.params[j]? =some t→args[j]? =some v→Value.okWide Tryd.prog W .any base t v:=hval0
 have hW':=hW
 obtain ⟨p,q,hA0,hV,rfl,hfz,hnd⟩:=hW
 have hA:DataW.TrodAll enc Tryd.prog W 0 (fun _=>true) true Tryd.f3.params.toList args.toList ds p:=hA0
 have hsz:(DataW.weightsEach Tryd.prog (Tryd.f3.params.toList++Rows.warpOrdersSpec.plain.varTypes Tryd.prog) (ds++gs)).all (· ≤reachBytes)=true:=hsz0
 rw[Tryd.params3] at hA hval hsz
 obtain ⟨v0,vs0,d0,ds0,p0,q0,hargs,rfl,rfl,h0,r0⟩:=trodAll_cons hA
 obtain ⟨v1,vs1,d1,ds1,p1,q1,rfl,rfl,rfl,h1,r1⟩:=trodAll_cons r0
 obtain ⟨rfl,rfl,rfl⟩:=trodAll_nil r1
 obtain rfl:args=#[v0,v1]:=by cases args;simp_all
 have hr:=reach_lt
 obtain ⟨l0,hl0,hl00,hli0,hlw0,hlr0⟩:=rd_ints Tryd.underlying22 Tryd.underlying3 cellsI (by rw[bytesI];decide) (hval 0 22 v0 rfl rfl) h0 (weights_at (j:=0) hsz rfl rfl)
 rw[bytesI] at hlr0
 have hv0:VRep (wOld (oldOf W)) (.sl 3 l0.length (l0.map iD)) v0:=vrep_old iD (hl0 []) hl00 (slice_v Tryd.underlying22 (hval 0 22 v0 rfl rfl) h0) (fun z _=>by simp only[iD,DRep,scOK,and_self])
 obtain ⟨l1,hl1,hl01,hli1,hlw1,hlr1⟩:=rd_ints Tryd.underlying22 Tryd.underlying3 cellsI (by rw[bytesI];decide) (hval 1 22 v1 rfl rfl) h1 (weights_at (j:=1) hsz rfl rfl)
 rw[bytesI] at hlr1
 have hv1:VRep (wOld (oldOf W)) (.sl 3 l1.length (l1.map iD)) v1:=vrep_old iD (hl1 []) hl01 (slice_v Tryd.underlying22 (hval 1 22 v1 rfl rfl) h1) (fun z _=>by simp only[iD,DRep,scOK,and_self])
 have hLm:laidMet Tryd.prog listed W:=by rw[← MakeChecks.laidMetH_plain _ _ _ (by kernel_rfl)];exact hL
 have htab:Tab W:=laid_tab hLm 2 rfl (g:=3) (t:=135) (e:=108) (k:= .u64) (m:=20) (by kernel_rfl) (by kernel_rfl) Tryd.underlying135 Tryd.underlying108 (by kernel_rfl) (by kernel_rfl) rfl
 obtain ⟨s',hbody⟩:=law_v (old:=oldOf W) (rounds:=many) (fns:=fns) (prims:=PR W) (n:=8) (af:=c3) (xs:= [.sl 3 l0.length (l0.map iD),.sl 3 l1.length (l1.map iD)]) (xsI:= [v0,v1]) (x:= .bool true) (Nat.le_of_ble_eq_true rfl)
  (by simp only[VRepL];exact ⟨_,_,rfl,hv0,_,_,rfl,hv1,rfl⟩) fun C hC hn=>orders_g W l0 l1 (by omega) (by omega) hC hn
 have hfn:fns 3=some c3:=rfl
 have hrv:ids 0 (.bool true)= []:=rfl
 refine (law_of htab (f:=3) (af:=c3) hfn (xs:= [v0,v1]) (by simp only[idsL_cons,hli0,hli1];rfl) _ hbody hrv).mono fun e W' ⟨he,hbe⟩=>?_
 exact ⟨_,he,law_post hW' rfl rfl (by kernel_rfl) (by kernel_rfl) Tryd.underlying4 hbe⟩
theorem orders_over:Rows.WarpOrdersSaid:=
 OpenClaim.holds_of_wide 3 Tryd.f3 rfl rfl rfl rfl rfl rfl rfl ⟨rfl,rfl,rfl,rfl,rfl⟩ rfl rfl rfl rfl rfl (by kernel_rfl) Tryd.func3 (by kernel_rfl)
  (of_decide_eq_true (by kernel_rfl)) (by unfold Func.isWrapper;first|(rw[if_pos (by decide+kernel)];kernel_rfl)|(rw[if_neg (by decide+kernel)];exact ⟨rfl,rfl⟩))
  (fun os started H enc _=>orders_lifted os started H enc)
theorem orders_holds:Rows.WarpOrdersCardSaid:=
 Claim7.holds_tied_plain_at .later [] [.data,.data,.data] true _ true
  orders_over (fun _ h=>by cases h) (by kernel_rfl) (fun _ h=>by cases h) warpOrders_row_tie rfl ⟨rfl,rfl⟩ (by kernel_rfl) rfl
  (fun f fn hf hfn=>by
   obtain rfl:f=3:=Option.some.inj ((show Tryd.prog.funcNamed "raddle/raddlelaw22.WarpOrders"=some 3 by kernel_rfl).symm.trans hf)|>.symm
   obtain rfl:fn=Tryd.f3:=(Option.some.inj (Tryd.func3.symm.trans hfn)).symm
   exact ⟨by kernel_rfl,fun j t ht=>stand_ins (l:= [22,22]) (by kernel_rfl) (by rw[Tryd.params3] at ht;simpa using Array.mem_of_getElem? ht)⟩)
  (by kernel_rfl)
#print axioms orders_holds
end Go.Proofs.YtgglaaldlegckaaDoor
