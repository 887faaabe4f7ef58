/- What is proved: the law ThreadNames returns true. Conditions: none beyond the card's own.
   Texts: T02q, T02r, T02t, T02u, T02v, T02w, T02y, T02g, T02h, T02zg, T02zj, T02zk.
-/
import Derived.Test.YtkjkiodoighgnaaGreatDoorPart5
import Derived.Test.YtkjkiodoighgnaaGreatDoorCards
import Derived.Test.YtkjkiodoighgnaaGreatDoorTie
import Derived.SizedLaws
import Derived.ChangeAt
import Derived.SevenTiedAt
import Derived.Stop.Joined
import Derived.Lay
namespace Go.Proofs.YtkjkiodoighgnaaGreatDoor
open Go Go.Itp
set_option maxRecDepth 100000
set_option maxHeartbeats 2000000
set_option linter.unusedSimpArgs false
set_option linter.unusedVariables false
def readK (x:List UInt8):Option Int:=(numA x).bind fun v=>if v<1 then none else if v<1000000000000 then (if itoaF v=x then some (v - 1) else none) else if Lib.itoa v=x then some (v - 1) else none
theorem readK_eq (x:List UInt8):readN x=readK x:=by
 unfold readN readK
 cases numA x with
 |none=>rfl
 |some v=>
  simp only[Option.bind_some]
  by_cases h1:v<1
  ·rw[if_neg (fun h=>h.2 h1),if_pos h1]
  ·rw[if_neg h1]
   by_cases h2:v<1000000000000
   ·rw[if_pos h2,itoaF_eq (by omega) h2]
    by_cases h3:itoaF v=x
    ·rw[if_pos ⟨h3,h1⟩,if_pos h3]
    ·rw[if_neg (fun h=>h3 h.1),if_neg h3]
   ·rw[if_neg h2]
    by_cases h3:Lib.itoa v=x
    ·rw[if_pos ⟨h3,h1⟩,if_pos h3]
    ·rw[if_neg (fun h=>h3 h.1),if_neg h3]
def parseK:List (List UInt8)→Option (List Int)
 | []=>some []
 |x::ws=>(readK x).bind fun p=>(parseK ws).map (p::·)
theorem parseK_eq:∀ ws,parseA ws=parseK ws
 | []=>rfl
 |x::ws=>by rw[parseA,parseK,readK_eq,parseK_eq ws]
def pparseK (s:List UInt8):List Int × Int:=
 if s= [] then ([],0) else match parseK (words 32 s) with
  |none=>([],12)
  |some R=>if chk R=0 then (R,0) else ([],12)
theorem pparseK_eq (s:List UInt8):pparseF s=pparseK s:=by
 unfold pparseF pparseK
 rw[parseK_eq]
 try rfl
theorem ex_t:textF [0,1,9]=([49,32,50,32,49,48],0):=by
 unfold textF txt
 rw[if_pos (by decide)]
 simp only[List.map,dw]
 rw[itoaF_eq (by decide) (by decide),itoaF_eq (by decide) (by decide),itoaF_eq (by decide) (by decide)]
 decide+kernel
theorem ex_r:rnmF [7,3,7,0]=([0,1,0,2],0):=by decide+kernel
theorem ex_m:matchF [7,3,7,0] [1,5,1,4]=([4,-1,-1,5,-1,-1,-1,1],0):=by decide+kernel
theorem ex_p:pointedF 3 7=([0,1,2,1,0,1,2],0):=by decide+kernel
theorem ex_1:pparseF [48]=([],12):=by rw[pparseK_eq];decide+kernel
theorem ex_2:pparseF [49,32,32,50]=([],12):=by rw[pparseK_eq];decide+kernel
theorem ex_3:pparseF [48,49]=([],12):=by rw[pparseK_eq];decide+kernel
theorem ex_4:pparseF [52,48,49]=([],12):=by rw[pparseK_eq];decide+kernel
theorem rw3 (nx t:Nat) (x0 x1 x2:Int):mkRowV nx t 1 3 [.int .i64 0] [(0,1,.sc (.int .i64 x0)),(1,1,.sc (.int .i64 x1)),(2,1,.sc (.int .i64 x2))]=some (.ref nx 0 3 3,some (.row t 1 false false ([x0,x1,x2].map iD)),[]):=(rfl)
theorem rw4 (nx t:Nat) (x0 x1 x2 x3:Int):mkRowV nx t 1 4 [.int .i64 0] [(0,1,.sc (.int .i64 x0)),(1,1,.sc (.int .i64 x1)),(2,1,.sc (.int .i64 x2)),(3,1,.sc (.int .i64 x3))]=some (.ref nx 0 4 4,some (.row t 1 false false ([x0,x1,x2,x3].map iD)),[]):=(rfl)
theorem rw7 (nx t:Nat) (x0 x1 x2 x3 x4 x5 x6:Int):mkRowV nx t 1 7 [.int .i64 0] [(0,1,.sc (.int .i64 x0)),(1,1,.sc (.int .i64 x1)),(2,1,.sc (.int .i64 x2)),(3,1,.sc (.int .i64 x3)),(4,1,.sc (.int .i64 x4)),(5,1,.sc (.int .i64 x5)),(6,1,.sc (.int .i64 x6))]=some (.ref nx 0 7 7,some (.row t 1 false false ([x0,x1,x2,x3,x4,x5,x6].map iD)),[]):=(rfl)
theorem rw8 (nx t:Nat) (x0 x1 x2 x3 x4 x5 x6 x7:Int):mkRowV nx t 1 8 [.int .i64 0] [(0,1,.sc (.int .i64 x0)),(1,1,.sc (.int .i64 x1)),(2,1,.sc (.int .i64 x2)),(3,1,.sc (.int .i64 x3)),(4,1,.sc (.int .i64 x4)),(5,1,.sc (.int .i64 x5)),(6,1,.sc (.int .i64 x6)),(7,1,.sc (.int .i64 x7))]=some (.ref nx 0 8 8,some (.row t 1 false false ([x0,x1,x2,x3,x4,x5,x6,x7].map iD)),[]):=(rfl)
section
variable (w:World) (n:Nat)
theorem is_p (s s':Nat) (a b:List Int) (e:Int) (ha:a.length≤140737488351232) (hb:b.length≤140737488351232):VSpec (EN w (n+2)) 16 [.sl s a.length (a.map iD),.sc (.int .i64 e),.sl s' b.length (b.map iD)] (.sc (.bool (decide (e=0) && decide (a=b)))) ⟨[],0,0⟩:=by
 refine vspec_flat rfl rfl (fun _ _=>rfl) (Nat.le_of_ble_eq_true rfl) (oldVals w) rfl fun C hC h0=>?_
 by_cases h1:e=0
 ·subst h1
  rw[decide_eq_true (rfl:(0:Int)=0),Bool.true_and]
  repeat' (first|(simp (disch:=first|omega|assumption|exact bd (by with_unfolding_all rfl)|exact Or.inl rfl|exact Or.inl trivial|exact okL_map _ (fun _=>rfl) _|(simp only[VVlen]<;>omega)|fail) only[VV0,VV1,VV2,VV3,VV4,VV5,VV6,VV7,VV8,VV9,mkFnV,vargs,slotsL,opdsA,Nat.reduceEqDiff,Nat.reduceLT,Nat.reduceAdd,Nat.reduceBEq,Int.reduceAdd,Int.reduceSub,Int.reduceLT,Int.reduceLE,Int.reduceEq,Int.reduceNeg,↓reduceIte,reduceCtorEq,scL,scD,expand,List.replicate,c16])|apply gC_drawW|((first|apply gI_dec|apply gG_dec|apply gPG_dec|apply gI_var|apply gG_var|apply gPG_var)<;>intro _))
  all_goals try (exfalso;omega)
  refine callV_flat (by rw[hC];exact same_r w n _ _ _ a b (.sl _ s a) (.sl _ s' b) ha hb) ?_
  repeat' (first|(simp (disch:=first|omega|assumption|exact bd (by with_unfolding_all rfl)|exact Or.inl rfl|exact Or.inl trivial|exact okL_map _ (fun _=>rfl) _|(simp only[VVlen]<;>omega)|fail) only[VV0,VV1,VV2,VV3,VV4,VV5,VV6,VV7,VV8,VV9,mkFnV,vargs,slotsL,opdsA,Nat.reduceEqDiff,Nat.reduceLT,Nat.reduceAdd,Nat.reduceBEq,Int.reduceAdd,Int.reduceSub,Int.reduceLT,Int.reduceLE,Int.reduceEq,Int.reduceNeg,↓reduceIte,reduceCtorEq,scL,scD,expand,List.replicate])|apply gC_drawW|((first|apply gI_dec|apply gG_dec|apply gPG_dec|apply gI_var|apply gG_var|apply gPG_var)<;>intro _))
  exact weak_flat rfl h0 rfl
 ·rw[decide_eq_false h1,Bool.false_and]
  repeat' (first|(simp (disch:=first|omega|assumption|exact bd (by with_unfolding_all rfl)|exact Or.inl rfl|exact Or.inl trivial|exact okL_map _ (fun _=>rfl) _|(simp only[VVlen]<;>omega)|fail) only[VV0,VV1,VV2,VV3,VV4,VV5,VV6,VV7,VV8,VV9,mkFnV,vargs,slotsL,opdsA,Nat.reduceEqDiff,Nat.reduceLT,Nat.reduceAdd,Nat.reduceBEq,Int.reduceAdd,Int.reduceSub,Int.reduceLT,Int.reduceLE,Int.reduceEq,Int.reduceNeg,↓reduceIte,reduceCtorEq,scL,scD,expand,List.replicate,c16,h1])|apply gC_drawW|((first|apply gI_dec|apply gG_dec|apply gPG_dec|apply gI_var|apply gG_var|apply gPG_var)<;>intro _))
  all_goals try (exfalso;omega)
  exact weak_flat rfl h0 rfl
theorem refused_p (s:List UInt8) (hl:s.length≤100000) (hes:(errO Tryz.prog w "strconv.ErrSyntax").isSome=true) (her:(errO Tryz.prog w "strconv.ErrRange").isSome=true) (h:pparseF s=([],12)):VSpec (EN w (n+9)) 18 [strV s] (.sc (.bool true)) ⟨[],0,0⟩:=by
 refine vspec_flat rfl rfl (fun _ _=>rfl) (Nat.le_of_ble_eq_true rfl) (oldVals w) rfl fun C hC h0=>?_
 have hp:=parse_p w n s hl hes her
 rw[h] at hp
 repeat' (first|(simp (disch:=first|omega|assumption|exact bd (by with_unfolding_all rfl)|exact Or.inl rfl|exact Or.inl trivial|exact okL_map _ (fun _=>rfl) _|(simp only[VVlen]<;>omega)|fail) only[VV0,VV1,VV2,VV3,VV4,VV5,VV6,VV7,VV8,VV9,mkFnV,vargs,slotsL,opdsA,Nat.reduceEqDiff,Nat.reduceLT,Nat.reduceAdd,Nat.reduceBEq,Int.reduceAdd,Int.reduceSub,Int.reduceLT,Int.reduceLE,Int.reduceEq,Int.reduceNeg,↓reduceIte,reduceCtorEq,scL,scD,expand,List.replicate,c18])|apply gC_drawW|((first|apply gI_dec|apply gG_dec|apply gPG_dec|apply gI_var|apply gG_var|apply gPG_var)<;>intro _))
 refine callV_of (by rw[hC];exact hp) rfl rfl rfl ?_
 repeat' (first|(simp (disch:=first|omega|assumption|exact bd (by with_unfolding_all rfl)|exact Or.inl rfl|exact Or.inl trivial|exact okL_map _ (fun _=>rfl) _|(simp only[VVlen]<;>omega)|fail) only[VV0,VV1,VV2,VV3,VV4,VV5,VV6,VV7,VV8,VV9,mkFnV,vargs,slotsL,opdsA,Nat.reduceEqDiff,Nat.reduceLT,Nat.reduceAdd,Nat.reduceBEq,Int.reduceAdd,Int.reduceSub,Int.reduceLT,Int.reduceLE,Int.reduceEq,Int.reduceNeg,↓reduceIte,reduceCtorEq,scL,scD,expand,List.replicate,vsh,vshL,shH,shO,fzSL,fzS])|apply gC_drawW|((first|apply gI_dec|apply gG_dec|apply gPG_dec|apply gI_var|apply gG_var|apply gPG_var)<;>intro _))
 all_goals try (exfalso;omega)
 exact weak_flat rfl h0 rfl
theorem alive_p (hes:(errO Tryz.prog w "strconv.ErrSyntax").isSome=true) (her:(errO Tryz.prog w "strconv.ErrRange").isSome=true):VSpec (EN w (n+10)) 6 [] (.sc (.bool true)) ⟨[],0,0⟩:=by
 refine vspec_flat rfl rfl (fun _ _=>rfl) (Nat.le_of_ble_eq_true rfl) (oldVals w) rfl fun C hC h0=>?_
 have s1:=text_p w (n+4) 0 (by decide) [0,1,9] (by decide)
 rw[ex_t] at s1
 have s2:=renumber_p w (n+7) 0 (by decide) [7,3,7,0] (by decide)
 rw[ex_r] at s2
 have s3:=match_p w (n+7) 0 0 (by decide) (by decide) [7,3,7,0] [1,5,1,4] (by decide) (by decide)
 rw[ex_m] at s3
 have s4:=pointed_p w (n+7) 3 7
 rw[ex_p] at s4
 have i1:=is_p w (n+7) 3 0 [0,1,0,2] [0,1,0,2] 0 (by decide) (by decide)
 have i2:=is_p w (n+7) 3 0 [4,-1,-1,5,-1,-1,-1,1] [4,-1,-1,5,-1,-1,-1,1] 0 (by decide) (by decide)
 have i3:=is_p w (n+7) 3 0 [0,1,2,1,0,1,2] [0,1,2,1,0,1,2] 0 (by decide) (by decide)
 rw[decide_eq_true rfl,decide_eq_true rfl] at i1 i2 i3
 have r1:=refused_p w n [48] (by decide) hes her ex_1
 have r2:=refused_p w n [49,32,32,50] (by decide) hes her ex_2
 have r3:=refused_p w n [48,49] (by decide) hes her ex_3
 have r4:=refused_p w n [52,48,49] (by decide) hes her ex_4
 have f2:∀ (H:VHp),frozA [] H=H:=frozA_none
 repeat' (first|(simp (disch:=first|omega|assumption|exact bd (by with_unfolding_all rfl)|exact Or.inl rfl|exact Or.inl trivial|exact okL_map _ (fun _=>rfl) _|(simp only[VVlen]<;>omega)|fail) only[VV0,VV1,VV2,VV3,VV4,VV5,VV6,VV7,VV8,VV9,mkFnV,vargs,slotsL,opdsA,Nat.reduceEqDiff,Nat.reduceLT,Nat.reduceAdd,Nat.reduceBEq,Int.reduceAdd,Int.reduceSub,Int.reduceLT,Int.reduceLE,Int.reduceEq,Int.reduceNeg,↓reduceIte,reduceCtorEq,scL,scD,expand,List.replicate,c6,rw3,rw4,rw7,rw8])|apply gC_drawW|((first|apply gI_dec|apply gG_dec|apply gPG_dec|apply gI_var|apply gG_var|apply gPG_var)<;>intro _))
 refine callV_flat (by rw[hC];exact s1.flat rfl rfl) ?_
 repeat' (first|(simp (disch:=first|omega|assumption|exact bd (by with_unfolding_all rfl)|exact Or.inl rfl|exact Or.inl trivial|exact okL_map _ (fun _=>rfl) _|(simp only[VVlen]<;>omega)|fail) only[VV0,VV1,VV2,VV3,VV4,VV5,VV6,VV7,VV8,VV9,mkFnV,vargs,slotsL,opdsA,Nat.reduceEqDiff,Nat.reduceLT,Nat.reduceAdd,Nat.reduceBEq,Int.reduceAdd,Int.reduceSub,Int.reduceLT,Int.reduceLE,Int.reduceEq,Int.reduceNeg,↓reduceIte,reduceCtorEq,scL,scD,expand,List.replicate,rw3,rw4,rw7,rw8,f2])|apply gC_drawW|((first|apply gI_dec|apply gG_dec|apply gPG_dec|apply gI_var|apply gG_var|apply gPG_var)<;>intro _))
 refine callV_of (by rw[hC];exact s2) rfl rfl rfl ?_
 repeat' (first|(simp (disch:=first|omega|assumption|exact bd (by with_unfolding_all rfl)|exact Or.inl rfl|exact Or.inl trivial|exact okL_map _ (fun _=>rfl) _|(simp only[VVlen]<;>omega)|fail) only[VV0,VV1,VV2,VV3,VV4,VV5,VV6,VV7,VV8,VV9,mkFnV,vargs,slotsL,opdsA,Nat.reduceEqDiff,Nat.reduceLT,Nat.reduceAdd,Nat.reduceBEq,Int.reduceAdd,Int.reduceSub,Int.reduceLT,Int.reduceLE,Int.reduceEq,Int.reduceNeg,↓reduceIte,reduceCtorEq,scL,scD,expand,List.replicate,vsh,vshL,shH,shO,fzSL,fzS,f2,rw3,rw4,rw7,rw8])|apply gC_drawW|((first|apply gI_dec|apply gG_dec|apply gPG_dec|apply gI_var|apply gG_var|apply gPG_var)<;>intro _))
 refine callV_of (by rw[hC];exact s3) rfl rfl rfl ?_
 repeat' (first|(simp (disch:=first|omega|assumption|exact bd (by with_unfolding_all rfl)|exact Or.inl rfl|exact Or.inl trivial|exact okL_map _ (fun _=>rfl) _|(simp only[VVlen]<;>omega)|fail) only[VV0,VV1,VV2,VV3,VV4,VV5,VV6,VV7,VV8,VV9,mkFnV,vargs,slotsL,opdsA,Nat.reduceEqDiff,Nat.reduceLT,Nat.reduceAdd,Nat.reduceBEq,Int.reduceAdd,Int.reduceSub,Int.reduceLT,Int.reduceLE,Int.reduceEq,Int.reduceNeg,↓reduceIte,reduceCtorEq,scL,scD,expand,List.replicate,vsh,vshL,shH,shO,fzSL,fzS,f2,rw3,rw4,rw7,rw8])|apply gC_drawW|((first|apply gI_dec|apply gG_dec|apply gPG_dec|apply gI_var|apply gG_var|apply gPG_var)<;>intro _))
 refine callV_of (by rw[hC];exact s4) rfl rfl rfl ?_
 repeat' (first|(simp (disch:=first|omega|assumption|exact bd (by with_unfolding_all rfl)|exact Or.inl rfl|exact Or.inl trivial|exact okL_map _ (fun _=>rfl) _|(simp only[VVlen]<;>omega)|fail) only[VV0,VV1,VV2,VV3,VV4,VV5,VV6,VV7,VV8,VV9,mkFnV,vargs,slotsL,opdsA,Nat.reduceEqDiff,Nat.reduceLT,Nat.reduceAdd,Nat.reduceBEq,Int.reduceAdd,Int.reduceSub,Int.reduceLT,Int.reduceLE,Int.reduceEq,Int.reduceNeg,↓reduceIte,reduceCtorEq,scL,scD,expand,List.replicate,vsh,vshL,shH,shO,fzSL,fzS,f2,rw3,rw4,rw7,rw8])|apply gC_drawW|((first|apply gI_dec|apply gG_dec|apply gPG_dec|apply gI_var|apply gG_var|apply gPG_var)<;>intro _))
 refine callV_flat (by rw[hC];exact i1.flat rfl rfl) ?_
 repeat' (first|(simp (disch:=first|omega|assumption|exact bd (by with_unfolding_all rfl)|exact Or.inl rfl|exact Or.inl trivial|exact okL_map _ (fun _=>rfl) _|(simp only[VVlen]<;>omega)|fail) only[VV0,VV1,VV2,VV3,VV4,VV5,VV6,VV7,VV8,VV9,mkFnV,vargs,slotsL,opdsA,Nat.reduceEqDiff,Nat.reduceLT,Nat.reduceAdd,Nat.reduceBEq,Int.reduceAdd,Int.reduceSub,Int.reduceLT,Int.reduceLE,Int.reduceEq,Int.reduceNeg,↓reduceIte,reduceCtorEq,scL,scD,expand,List.replicate,rw3,rw4,rw7,rw8,f2])|apply gC_drawW|((first|apply gI_dec|apply gG_dec|apply gPG_dec|apply gI_var|apply gG_var|apply gPG_var)<;>intro _))
 refine callV_flat (by rw[hC];exact i2.flat rfl rfl) ?_
 repeat' (first|(simp (disch:=first|omega|assumption|exact bd (by with_unfolding_all rfl)|exact Or.inl rfl|exact Or.inl trivial|exact okL_map _ (fun _=>rfl) _|(simp only[VVlen]<;>omega)|fail) only[VV0,VV1,VV2,VV3,VV4,VV5,VV6,VV7,VV8,VV9,mkFnV,vargs,slotsL,opdsA,Nat.reduceEqDiff,Nat.reduceLT,Nat.reduceAdd,Nat.reduceBEq,Int.reduceAdd,Int.reduceSub,Int.reduceLT,Int.reduceLE,Int.reduceEq,Int.reduceNeg,↓reduceIte,reduceCtorEq,scL,scD,expand,List.replicate,rw3,rw4,rw7,rw8,f2])|apply gC_drawW|((first|apply gI_dec|apply gG_dec|apply gPG_dec|apply gI_var|apply gG_var|apply gPG_var)<;>intro _))
 refine callV_flat (by rw[hC];exact i3.flat rfl rfl) ?_
 repeat' (first|(simp (disch:=first|omega|assumption|exact bd (by with_unfolding_all rfl)|exact Or.inl rfl|exact Or.inl trivial|exact okL_map _ (fun _=>rfl) _|(simp only[VVlen]<;>omega)|fail) only[VV0,VV1,VV2,VV3,VV4,VV5,VV6,VV7,VV8,VV9,mkFnV,vargs,slotsL,opdsA,Nat.reduceEqDiff,Nat.reduceLT,Nat.reduceAdd,Nat.reduceBEq,Int.reduceAdd,Int.reduceSub,Int.reduceLT,Int.reduceLE,Int.reduceEq,Int.reduceNeg,↓reduceIte,reduceCtorEq,scL,scD,expand,List.replicate,rw3,rw4,rw7,rw8,f2])|apply gC_drawW|((first|apply gI_dec|apply gG_dec|apply gPG_dec|apply gI_var|apply gG_var|apply gPG_var)<;>intro _))
 refine callV_flat (by rw[hC];exact r1.flat rfl rfl) ?_
 repeat' (first|(simp (disch:=first|omega|assumption|exact bd (by with_unfolding_all rfl)|exact Or.inl rfl|exact Or.inl trivial|exact okL_map _ (fun _=>rfl) _|(simp only[VVlen]<;>omega)|fail) only[VV0,VV1,VV2,VV3,VV4,VV5,VV6,VV7,VV8,VV9,mkFnV,vargs,slotsL,opdsA,Nat.reduceEqDiff,Nat.reduceLT,Nat.reduceAdd,Nat.reduceBEq,Int.reduceAdd,Int.reduceSub,Int.reduceLT,Int.reduceLE,Int.reduceEq,Int.reduceNeg,↓reduceIte,reduceCtorEq,scL,scD,expand,List.replicate,rw3,rw4,rw7,rw8,f2])|apply gC_drawW|((first|apply gI_dec|apply gG_dec|apply gPG_dec|apply gI_var|apply gG_var|apply gPG_var)<;>intro _))
 refine callV_flat (by rw[hC];exact r2.flat rfl rfl) ?_
 repeat' (first|(simp (disch:=first|omega|assumption|exact bd (by with_unfolding_all rfl)|exact Or.inl rfl|exact Or.inl trivial|exact okL_map _ (fun _=>rfl) _|(simp only[VVlen]<;>omega)|fail) only[VV0,VV1,VV2,VV3,VV4,VV5,VV6,VV7,VV8,VV9,mkFnV,vargs,slotsL,opdsA,Nat.reduceEqDiff,Nat.reduceLT,Nat.reduceAdd,Nat.reduceBEq,Int.reduceAdd,Int.reduceSub,Int.reduceLT,Int.reduceLE,Int.reduceEq,Int.reduceNeg,↓reduceIte,reduceCtorEq,scL,scD,expand,List.replicate,rw3,rw4,rw7,rw8,f2])|apply gC_drawW|((first|apply gI_dec|apply gG_dec|apply gPG_dec|apply gI_var|apply gG_var|apply gPG_var)<;>intro _))
 refine callV_flat (by rw[hC];exact r3.flat rfl rfl) ?_
 repeat' (first|(simp (disch:=first|omega|assumption|exact bd (by with_unfolding_all rfl)|exact Or.inl rfl|exact Or.inl trivial|exact okL_map _ (fun _=>rfl) _|(simp only[VVlen]<;>omega)|fail) only[VV0,VV1,VV2,VV3,VV4,VV5,VV6,VV7,VV8,VV9,mkFnV,vargs,slotsL,opdsA,Nat.reduceEqDiff,Nat.reduceLT,Nat.reduceAdd,Nat.reduceBEq,Int.reduceAdd,Int.reduceSub,Int.reduceLT,Int.reduceLE,Int.reduceEq,Int.reduceNeg,↓reduceIte,reduceCtorEq,scL,scD,expand,List.replicate,rw3,rw4,rw7,rw8,f2])|apply gC_drawW|((first|apply gI_dec|apply gG_dec|apply gPG_dec|apply gI_var|apply gG_var|apply gPG_var)<;>intro _))
 refine callV_flat (by rw[hC];exact r4.flat rfl rfl) ?_
 repeat' (first|(simp (disch:=first|omega|assumption|exact bd (by with_unfolding_all rfl)|exact Or.inl rfl|exact Or.inl trivial|exact okL_map _ (fun _=>rfl) _|(simp only[VVlen]<;>omega)|fail) only[VV0,VV1,VV2,VV3,VV4,VV5,VV6,VV7,VV8,VV9,mkFnV,vargs,slotsL,opdsA,Nat.reduceEqDiff,Nat.reduceLT,Nat.reduceAdd,Nat.reduceBEq,Int.reduceAdd,Int.reduceSub,Int.reduceLT,Int.reduceLE,Int.reduceEq,Int.reduceNeg,↓reduceIte,reduceCtorEq,scL,scD,expand,List.replicate,rw3,rw4,rw7,rw8,f2])|apply gC_drawW|((first|apply gI_dec|apply gG_dec|apply gPG_dec|apply gI_var|apply gG_var|apply gPG_var)<;>intro _))
 exact weak_flat rfl h0 rfl
end
end Go.Proofs.YtkjkiodoighgnaaGreatDoor
namespace Go.Proofs.YtkjkiodoighgnaaGreatDoor
open Go Go.Itp
set_option maxRecDepth 100000
set_option maxHeartbeats 2000000
set_option linter.unusedSimpArgs false
set_option linter.unusedVariables false
theorem chk_mem {l:List Int} (h:chk l=0):∀ x ∈ l,0≤x∧x<400:=fun x hx=>by
 obtain ⟨i,hi,rfl⟩:=List.getElem_of_mem hx
 have:=(chk_facts h).2 i hi
 rwa [getElem!_pos l i hi] at this
end Go.Proofs.YtkjkiodoighgnaaGreatDoor
namespace Go.Proofs.YtkjkiodoighgnaaGreatDoor
open Go Go.Itp
set_option maxRecDepth 100000
set_option maxHeartbeats 1000000
set_option linter.unusedSimpArgs false
set_option linter.unusedVariables false
theorem values_iter {C':Ctx} {E:Env} {a b:AC} {fr:VFr} {ps:List Nat} {d o s:Nat} {l:List Int} {J:Nat→VSt→Prop} {P:VPost} (hr:C'.E.rounds=many) (hl:l.length≤5000)
  (hT:∀ xs st Q,RoundV E a b fr ps d xs st Q→CallT C' d xs st Q) (hbox:∀ k st,J k st→∃ t,aget st.own o=some (.box t 1 [.sl s l.length (l.map iD)]))
  (hround:∀ k st (Q:V→VSt→Prop),k<l.length→J k st→(∀ st',J (k+1) st'→Q (.sc (.bool true)) st')→RoundV E a b fr ps d [.sc (.int .i64 l[k]!)] st Q) (hend:∀ fr st,J l.length st→P .normal fr st) (st0:VSt) (h0:J 0 st0):
  gC C' c41.code [] (vargs 0 [.tok d,.ptr o 0]) st0 P:=by
 obtain ⟨t00,hb0⟩:=hbox 0 st0 h0
 repeat' (first|(simp (disch:=first|omega|assumption|exact bd (by with_unfolding_all rfl)|exact Or.inl rfl|exact Or.inl trivial|exact okL_map _ (fun _=>rfl) _|(simp only[VVlen]<;>omega)|fail) only[VV0,VV1,VV2,VV3,VV4,VV5,VV6,VV7,VV8,VV9,mkFnV,vargs,slotsL,opdsA,Nat.reduceEqDiff,Nat.reduceLT,Nat.reduceAdd,Nat.reduceBEq,Int.reduceAdd,Int.reduceSub,Int.reduceLT,Int.reduceLE,Int.reduceEq,Int.reduceNeg,↓reduceIte,reduceCtorEq,scL,scD,expand,List.replicate,c41,hb0])|apply gC_drawW|((first|apply gI_dec|apply gG_dec|apply gPG_dec|apply gI_var|apply gG_var|apply gPG_var)<;>intro _))
 refine g_while (fun m fr st=>∃ k:Nat,m=l.length - k∧k≤l.length∧J k st∧fr= [(0,.tok d),(5,.sl s l.length (l.map iD)),(6,.sc (.int .i64 l.length)),(7,.sc (.int .i64 k))]) l.length ?_ ⟨_,_,.refl _ _,0,by omega,by omega,h0,rfl⟩ ?_
 ·rw[hr];unfold many;omega
 rintro m fr1 st ⟨k,rfl,hk,hJ,rfl⟩
 by_cases hlt:k<l.length
 case neg=>
  have:k=l.length:=by omega
  subst this
  repeat' (first|(simp (disch:=first|omega|assumption|exact bd (by with_unfolding_all rfl)|exact Or.inl rfl|exact Or.inl trivial|exact okL_map _ (fun _=>rfl) _|(simp only[VVlen]<;>omega)|fail) only[VV0,VV1,VV2,VV3,VV4,VV5,VV6,VV7,VV8,VV9,mkFnV,vargs,slotsL,opdsA,Nat.reduceEqDiff,Nat.reduceLT,Nat.reduceAdd,Nat.reduceBEq,Int.reduceAdd,Int.reduceSub,Int.reduceLT,Int.reduceLE,Int.reduceEq,Int.reduceNeg,↓reduceIte,reduceCtorEq,scL,scD,expand,List.replicate,c41l0])|apply gC_drawW|((first|apply gI_dec|apply gG_dec|apply gPG_dec|apply gI_var|apply gG_var|apply gPG_var)<;>intro _))
  all_goals try (exfalso;omega)
  exact hend _ _ hJ
 repeat' (first|(simp (disch:=first|omega|assumption|exact bd (by with_unfolding_all rfl)|exact Or.inl rfl|exact Or.inl trivial|exact okL_map _ (fun _=>rfl) _|(simp only[VVlen]<;>omega)|fail) only[VV0,VV1,VV2,VV3,VV4,VV5,VV6,VV7,VV8,VV9,mkFnV,vargs,slotsL,opdsA,Nat.reduceEqDiff,Nat.reduceLT,Nat.reduceAdd,Nat.reduceBEq,Int.reduceAdd,Int.reduceSub,Int.reduceLT,Int.reduceLE,Int.reduceEq,Int.reduceNeg,↓reduceIte,reduceCtorEq,scL,scD,expand,List.replicate,c41l0,iD_dv])|apply gC_drawW|((first|apply gI_dec|apply gG_dec|apply gPG_dec|apply gI_var|apply gG_var|apply gPG_var)<;>intro _))
 all_goals try (exfalso;omega)
 refine hT _ _ _ (hround k _ _ hlt hJ fun st' hJ'=>?_)
 repeat' (first|(simp (disch:=first|omega|assumption|exact bd (by with_unfolding_all rfl)|exact Or.inl rfl|exact Or.inl trivial|exact okL_map _ (fun _=>rfl) _|(simp only[VVlen]<;>omega)|fail) only[VV0,VV1,VV2,VV3,VV4,VV5,VV6,VV7,VV8,VV9,mkFnV,vargs,slotsL,opdsA,Nat.reduceEqDiff,Nat.reduceLT,Nat.reduceAdd,Nat.reduceBEq,Int.reduceAdd,Int.reduceSub,Int.reduceLT,Int.reduceLE,Int.reduceEq,Int.reduceNeg,↓reduceIte,reduceCtorEq,scL,scD,expand,List.replicate])|apply gC_drawW|((first|apply gI_dec|apply gG_dec|apply gPG_dec|apply gI_var|apply gG_var|apply gPG_var)<;>intro _))
 exact ⟨_,_,_,by omega,.refl _ _,k+1,rfl,hlt,hJ',rfl⟩
section
variable (w:World) (n:Nat)
theorem values_p (s:Nat) (hs:s ≠ 1) (l:List Int):VSpec (EN w (n+1)) 28 [.sl s l.length (l.map iD)] (.fn 41 [] [.ptr 0 0]) ⟨[(0,.box 22 1 [.sl s l.length (l.map iD)])],1,0⟩:=by
 refine vspec_g rfl rfl (fun _ _=>rfl) (Nat.le_of_ble_eq_true rfl) (oldVals w) ?_ rfl fun C hC hn=>?_
 ·have hc:Cl [(0,.box 22 1 [.sl s l.length (l.map iD)])] (.sl s l.length (l.map iD)):=by
   simp only[Cl,okD,Bool.or_eq_true,Bool.not_eq_true',nbf];exact .inl hs
  refine ⟨?_,fun o t e L h=>?_,fun o ob h=>?_⟩
  ·simp only[Cl,ClL,and_true,true_and]
   exact ⟨_,rfl,rfl⟩
  ·rw[aget_cons,aget_nil] at h
   split at h
   ·cases h;exact ⟨hc,trivial⟩
   ·cases h
  ·rw[aget_cons,aget_nil] at h
   split at h
   ·rename_i h1;subst h1
    exact fun _=>VR.root 0 (by simp[vids,vidsL])
   ·cases h
 ·repeat' (first|(simp (disch:=first|omega|assumption|exact bd (by with_unfolding_all rfl)|exact Or.inl rfl|exact Or.inl trivial|exact okL_map _ (fun _=>rfl) _|(simp only[VVlen]<;>omega)|fail) only[VV0,VV1,VV2,VV3,VV4,VV5,VV6,VV7,VV8,VV9,mkFnV,vargs,slotsL,opdsA,Nat.reduceEqDiff,Nat.reduceLT,Nat.reduceAdd,Nat.reduceBEq,Int.reduceAdd,Int.reduceSub,Int.reduceLT,Int.reduceLE,Int.reduceEq,Int.reduceNeg,↓reduceIte,reduceCtorEq,scL,scD,expand,List.replicate,c28])|apply gC_drawW|((first|apply gI_dec|apply gG_dec|apply gPG_dec|apply gI_var|apply gG_var|apply gPG_var)<;>intro _))
  exact weak_to [(0,0)] 1 hn rfl rfl rfl (by simp[renH,aget_cons,renO,vrenL,vren])
theorem appendSeq_w {C:Ctx} {Q:V→VSt→Prop} (hC:C.E=EN w (n+3)) (s:Nat) (l:List Int) (hl:l.length≤5000)
  (hq:Q (.gr 2 2 l.length) ⟨[(2,.gro 3 1 false (l.map iD)),(1,.box 22 1 [.sl s l.length (l.map iD)])],3,0⟩):
  CallV C 49 [.sc (.slice none 0 0),.fn 41 [] [.ptr 1 0]] ⟨[(1,.box 22 1 [.sl s l.length (l.map iD)])],2,0⟩ Q:=by
 refine callV_w hC rfl rfl (fun _ _=>rfl) (Nat.le_of_ble_eq_true rfl) hq fun C' hC' hn=>?_
 repeat' (first|(simp (disch:=first|omega|assumption|exact bd (by with_unfolding_all rfl)|exact Or.inl rfl|exact Or.inl trivial|exact okL_map _ (fun _=>rfl) _|(simp only[VVlen]<;>omega)|fail) only[VV0,VV1,VV2,VV3,VV4,VV5,VV6,VV7,VV8,VV9,mkFnV,vargs,slotsL,opdsA,Nat.reduceEqDiff,Nat.reduceLT,Nat.reduceAdd,Nat.reduceBEq,Int.reduceAdd,Int.reduceSub,Int.reduceLT,Int.reduceLE,Int.reduceEq,Int.reduceNeg,↓reduceIte,reduceCtorEq,scL,scD,expand,List.replicate,c49])|apply gC_drawW|((first|apply gI_dec|apply gG_dec|apply gPG_dec|apply gI_var|apply gG_var|apply gPG_var)<;>intro _))
 refine g_rangeW (st':=⟨[(3,.gro 3 1 false []),(2,.box 22 1 [.gr 2 3 0]),(1,.box 22 1 [.sl s l.length (l.map iD)])],4,0⟩) (weak_nilCell (st:=⟨[(2,.box 22 1 [.sc (.slice none 0 0)]),(1,.box 22 1 [.sl s l.length (l.map iD)])],3,0⟩) (l:= [.sc (.slice none 0 0)]) 2 22 1 0 3 1 rfl rfl (fun h=>absurd (show (2:Nat)=3 from h) (by decide))) ?_
 refine g_range hC' rfl rfl rfl (Nat.le_of_ble_eq_true rfl) rfl (Nat.zero_le _) fun C2 h2n h2r h2p h2o hT=>?_
 refine values_iter (d:=4) (o:=1) (s:=s) (l:=l) (J:=fun k st=>∃ r nx,(r ≠ 1∧r ≠ 2∧r ≠ 4∧r<nx∧4<nx)∧st=⟨[(4,recO 0),(r,.gro 3 1 false ((l.take k).map iD)),(2,.box 22 1 [.gr 2 r (l.take k).length]),(1,.box 22 1 [.sl s l.length (l.map iD)])],nx,0⟩) h2r hl hT ?_ ?_ ?_ _ ?_
 ·rintro k st ⟨r,nx,⟨h1,h2,h3,h4,h5⟩,rfl⟩
  exact ⟨22,by simp[aget_cons,h1,h2,h3,Ne.symm h1]⟩
 ·rintro k st Q2 hlt ⟨r,nx,⟨h1,h2,h3,h4,h5⟩,rfl⟩ hq2
  have htk:l.take (k+1)=l.take k++ [l[k]!]:=by rw[List.take_succ_eq_append_getElem hlt,getElem!_pos l k hlt]
  generalize l[k]! =x at*
  have htl:(l.take k).length=k:=by rw[List.length_take];omega
  have hml:((l.take k).map iD).length=(l.take k).length:=by rw[List.length_map]
  have b1:¬ (4=nx):=by omega
  have b2:¬ (r=nx):=by omega
  have b3:¬ (2=nx):=by omega
  have b4:¬ (1=nx):=by omega
  have b5:¬ (2=r):=fun h=>h2 h.symm
  have b6:¬ (4=r):=fun h=>h3 h.symm
  have b7:¬ (1=r):=fun h=>h1 h.symm
  refine ⟨Nat.zero_le _,rfl,h5,_,rfl,fun C4 h4 h4n=>?_⟩
  repeat' (first|(simp (disch:=first|omega|assumption|exact bd (by with_unfolding_all rfl)|exact Or.inl rfl|exact Or.inl trivial|exact okL_map _ (fun _=>rfl) _|(simp only[VVlen]<;>omega)|fail) only[VV0,VV1,VV2,VV3,VV4,VV5,VV6,VV7,VV8,VV9,mkFnV,vargs,slotsL,opdsA,Nat.reduceEqDiff,Nat.reduceLT,Nat.reduceAdd,Nat.reduceBEq,Int.reduceAdd,Int.reduceSub,Int.reduceLT,Int.reduceLE,Int.reduceEq,Int.reduceNeg,↓reduceIte,reduceCtorEq,scL,scD,expand,List.replicate,c49a0,b1,b2,b3,b4,b5,b6,b7,h1,h2,h3])|apply gC_drawW|((first|apply gI_dec|apply gG_dec|apply gPG_dec|apply gI_var|apply gG_var|apply gPG_var)<;>intro _))
  refine ⟨trivial,Nat.zero_le _,trivial,?_⟩
  have c1:¬ (r=nx+1):=by omega
  have c2:¬ (2=nx+1):=by omega
  have c3:¬ (4=nx+1):=by omega
  have c4:¬ (nx+1=nx):=by omega
  have c5:¬ (nx=2):=by omega
  have c6:¬ (1=nx+1):=by omega
  repeat' (first|(simp (disch:=first|omega|assumption|exact bd (by with_unfolding_all rfl)|exact Or.inl rfl|exact Or.inl trivial|exact okL_map _ (fun _=>rfl) _|(simp only[VVlen]<;>omega)|fail) only[VV0,VV1,VV2,VV3,VV4,VV5,VV6,VV7,VV8,VV9,mkFnV,vargs,slotsL,opdsA,Nat.reduceEqDiff,Nat.reduceLT,Nat.reduceAdd,Nat.reduceBEq,Int.reduceAdd,Int.reduceSub,Int.reduceLT,Int.reduceLE,Int.reduceEq,Int.reduceNeg,↓reduceIte,reduceCtorEq,scL,scD,expand,List.replicate,c49b0,b1,b2,b3,b4,b5,b6,b7,h1,h2,h3,c1,c2,c3,c4,c5,c6])|apply gC_drawW|((first|apply gI_dec|apply gG_dec|apply gPG_dec|apply gI_var|apply gG_var|apply gPG_var)<;>intro _))
  have hnx:C4.w0.nx=nx:=h4n
  have d1:¬ (nx=4):=by omega
  have d2:¬ (nx=1):=by omega
  have d3:¬ (nx=3):=by omega
  have d4:¬ (nx=0):=by omega
  refine ⟨Nat.zero_le _,trivial,_,weak_keep [4,nx+1,2,1] (by simp;omega) (by simp;omega) (by omega),Eq.mp (congrArg (Q2 _) ?_) (hq2 _ ⟨nx+1,nx+2,by omega,rfl⟩)⟩
  rw[htk]
  simp[iD,idR,renH,aget_cons,renO,recO,vrenL,vren,codeOf,b1,b2,b3,b4,b5,b6,b7,h1,h2,h3,c1,c2,c3,c4,c5,c6,d1,d2,d3,d4]
 ·rintro fr st ⟨r,nx,⟨h1,h2,h3,h4,h5⟩,rfl⟩
  refine ⟨fun i h=>(by cases h),Nat.zero_le _,0,.normal,rfl,rfl,?_⟩
  have b5:¬ (2=r):=fun h=>h2 h.symm
  have b6:¬ (4=r):=fun h=>h3 h.symm
  have b7:¬ (1=r):=fun h=>h1 h.symm
  rw[List.take_length]
  repeat' (first|(simp (disch:=first|omega|assumption|exact bd (by with_unfolding_all rfl)|exact Or.inl rfl|exact Or.inl trivial|exact okL_map _ (fun _=>rfl) _|(simp only[VVlen]<;>omega)|fail) only[VV0,VV1,VV2,VV3,VV4,VV5,VV6,VV7,VV8,VV9,mkFnV,vargs,slotsL,opdsA,Nat.reduceEqDiff,Nat.reduceLT,Nat.reduceAdd,Nat.reduceBEq,Int.reduceAdd,Int.reduceSub,Int.reduceLT,Int.reduceLE,Int.reduceEq,Int.reduceNeg,↓reduceIte,reduceCtorEq,scL,scD,expand,List.replicate,b5,b6,b7,h1,h2,h3])|apply gC_drawW|((first|apply gI_dec|apply gG_dec|apply gPG_dec|apply gI_var|apply gG_var|apply gPG_var)<;>intro _))
  have hn1:C'.w0.nx=2:=hn
  refine weak_toB [(r,2),(1,1)] 3 (by omega) rfl ?_ ?_ ?_
  ·rw[hn1]
   have q1:Nat.beq r 1=false:=nbf.2 h1
   have q2:Nat.ble 0 r=true:=by rw[Nat.ble_eq];exact Nat.zero_le _
   have q3:Nat.ble 2 2=true:=rfl
   simp only[okRen,notIn,notKey,q1,q2,q3]
   rfl
  ·simp[renF,vren,aget_cons]
  ·simp[renH,aget_cons,renO,vrenL,vren,h1,h2,b5,b7]
 ·exact ⟨3,5,by decide,rfl⟩
theorem collect_w {C:Ctx} {Q:V→VSt→Prop} (hC:C.E=EN w (n+4)) (s:Nat) (l:List Int) (hl:l.length≤5000)
  (hq:Q (.gr 2 2 l.length) ⟨[(2,.gro 3 1 false (l.map iD)),(1,.box 22 1 [.sl s l.length (l.map iD)])],3,0⟩):
  CallV C 39 [.fn 41 [] [.ptr 1 0]] ⟨[(1,.box 22 1 [.sl s l.length (l.map iD)])],2,0⟩ Q:=by
 refine callV_w hC rfl rfl (fun _ _=>rfl) (Nat.le_of_ble_eq_true rfl) hq fun C' hC' hn=>?_
 repeat' (first|(simp (disch:=first|omega|assumption|exact bd (by with_unfolding_all rfl)|exact Or.inl rfl|exact Or.inl trivial|exact okL_map _ (fun _=>rfl) _|(simp only[VVlen]<;>omega)|fail) only[VV0,VV1,VV2,VV3,VV4,VV5,VV6,VV7,VV8,VV9,mkFnV,vargs,slotsL,opdsA,Nat.reduceEqDiff,Nat.reduceLT,Nat.reduceAdd,Nat.reduceBEq,Int.reduceAdd,Int.reduceSub,Int.reduceLT,Int.reduceLE,Int.reduceEq,Int.reduceNeg,↓reduceIte,reduceCtorEq,scL,scD,expand,List.replicate,c39])|apply gC_drawW|((first|apply gI_dec|apply gG_dec|apply gPG_dec|apply gI_var|apply gG_var|apply gPG_var)<;>intro _))
 refine appendSeq_w w n hC' s l hl ?_
 repeat' (first|(simp (disch:=first|omega|assumption|exact bd (by with_unfolding_all rfl)|exact Or.inl rfl|exact Or.inl trivial|exact okL_map _ (fun _=>rfl) _|(simp only[VVlen]<;>omega)|fail) only[VV0,VV1,VV2,VV3,VV4,VV5,VV6,VV7,VV8,VV9,mkFnV,vargs,slotsL,opdsA,Nat.reduceEqDiff,Nat.reduceLT,Nat.reduceAdd,Nat.reduceBEq,Int.reduceAdd,Int.reduceSub,Int.reduceLT,Int.reduceLE,Int.reduceEq,Int.reduceNeg,↓reduceIte,reduceCtorEq,scL,scD,expand,List.replicate])|apply gC_drawW|((first|apply gI_dec|apply gG_dec|apply gPG_dec|apply gI_var|apply gG_var|apply gPG_var)<;>intro _))
 exact .refl _ _
theorem sorted_w {C:Ctx} {Q:V→VSt→Prop} (hC:C.E=EN w (n+5)) (s:Nat) (l:List Int) (hl:l.length≤5000)
  (hq:Q (.gr 2 2 (srt l).length) ⟨[(2,.gro 3 1 false ((srt l).map iD)),(1,.box 22 1 [.sl s l.length (l.map iD)])],3,0⟩):
  CallV C 27 [.fn 41 [] [.ptr 1 0]] ⟨[(1,.box 22 1 [.sl s l.length (l.map iD)])],2,0⟩ Q:=by
 refine callV_w hC rfl rfl (fun _ _=>rfl) (Nat.le_of_ble_eq_true rfl) hq fun C' hC' hn=>?_
 repeat' (first|(simp (disch:=first|omega|assumption|exact bd (by with_unfolding_all rfl)|exact Or.inl rfl|exact Or.inl trivial|exact okL_map _ (fun _=>rfl) _|(simp only[VVlen]<;>omega)|fail) only[VV0,VV1,VV2,VV3,VV4,VV5,VV6,VV7,VV8,VV9,mkFnV,vargs,slotsL,opdsA,Nat.reduceEqDiff,Nat.reduceLT,Nat.reduceAdd,Nat.reduceBEq,Int.reduceAdd,Int.reduceSub,Int.reduceLT,Int.reduceLE,Int.reduceEq,Int.reduceNeg,↓reduceIte,reduceCtorEq,scL,scD,expand,List.replicate,c27])|apply gC_drawW|((first|apply gI_dec|apply gG_dec|apply gPG_dec|apply gI_var|apply gG_var|apply gPG_var)<;>intro _))
 refine collect_w w n hC' s l hl ?_
 repeat' (first|(simp (disch:=first|omega|assumption|exact bd (by with_unfolding_all rfl)|exact Or.inl rfl|exact Or.inl trivial|exact okL_map _ (fun _=>rfl) _|(simp only[VVlen]<;>omega)|fail) only[VV0,VV1,VV2,VV3,VV4,VV5,VV6,VV7,VV8,VV9,mkFnV,vargs,slotsL,opdsA,Nat.reduceEqDiff,Nat.reduceLT,Nat.reduceAdd,Nat.reduceBEq,Int.reduceAdd,Int.reduceSub,Int.reduceLT,Int.reduceLE,Int.reduceEq,Int.reduceNeg,↓reduceIte,reduceCtorEq,scL,scD,expand,List.replicate])|apply gC_drawW|((first|apply gI_dec|apply gG_dec|apply gPG_dec|apply gI_var|apply gG_var|apply gPG_var)<;>intro _))
 by_cases h0:l= []
 ·subst h0
  refine lib_w0 0 hC' rfl (fun _ _=>rfl) 2 2 ?_
  have e0:srt []= []:=List.mergeSort_nil
  repeat' (first|(simp (disch:=first|omega|assumption|exact bd (by with_unfolding_all rfl)|exact Or.inl rfl|exact Or.inl trivial|exact okL_map _ (fun _=>rfl) _|(simp only[VVlen]<;>omega)|fail) only[VV0,VV1,VV2,VV3,VV4,VV5,VV6,VV7,VV8,VV9,mkFnV,vargs,slotsL,opdsA,Nat.reduceEqDiff,Nat.reduceLT,Nat.reduceAdd,Nat.reduceBEq,Int.reduceAdd,Int.reduceSub,Int.reduceLT,Int.reduceLE,Int.reduceEq,Int.reduceNeg,↓reduceIte,reduceCtorEq,scL,scD,expand,List.replicate,e0])|apply gC_drawW|((first|apply gI_dec|apply gG_dec|apply gPG_dec|apply gI_var|apply gG_var|apply gPG_var)<;>intro _))
  exact .refl _ _
 ·refine sort_w hC' rfl (fun _ _=>rfl) 2 2 3 l h0 (by omega) rfl (Nat.zero_le _) ?_
  repeat' (first|(simp (disch:=first|omega|assumption|exact bd (by with_unfolding_all rfl)|exact Or.inl rfl|exact Or.inl trivial|exact okL_map _ (fun _=>rfl) _|(simp only[VVlen]<;>omega)|fail) only[VV0,VV1,VV2,VV3,VV4,VV5,VV6,VV7,VV8,VV9,mkFnV,vargs,slotsL,opdsA,Nat.reduceEqDiff,Nat.reduceLT,Nat.reduceAdd,Nat.reduceBEq,Int.reduceAdd,Int.reduceSub,Int.reduceLT,Int.reduceLE,Int.reduceEq,Int.reduceNeg,↓reduceIte,reduceCtorEq,scL,scD,expand,List.replicate,srt_len])|apply gC_drawW|((first|apply gI_dec|apply gG_dec|apply gPG_dec|apply gI_var|apply gG_var|apply gPG_var)<;>intro _))
  exact .refl _ _
def usedF (l:List Int):Int × Int:=if chk l=0 then ((((cpt (srt l)).length:Nat):Int),0) else (0,chk l)
theorem used_p (s:Nat) (hs:s ≠ 1) (l:List Int) (hl:l.length≤140737488351232):VSpec (EN w (n+6)) 11 [.sl s l.length (l.map iD)] (.tup [.sc (.int .i64 (usedF l).1),.sc (.int .i64 (usedF l).2)]) ⟨[],0,0⟩:=by
 refine vspec_flat rfl rfl (fun _ _=>rfl) (Nat.le_of_ble_eq_true rfl) (oldVals w) rfl fun C hC hn=>?_
 have o1:okD (.sl s l.length (l.map iD))=true:=okD_ne hs
 have hck:=check_p w (n+4) [(s,l)] (by simp) (fun k hk=>by
  rcases k with _|k
  ·exact hl
  ·simp at hk)
 rw[chkL_one] at hck
 by_cases h0:chk l=0
 case neg=>
  have e:usedF l=(0,chk l):=if_neg h0
  rw[e]
  repeat' (first|(simp (disch:=first|omega|assumption|exact bd (by with_unfolding_all rfl)|exact Or.inl rfl|exact Or.inl trivial|exact okL_map _ (fun _=>rfl) _|(simp only[VVlen]<;>omega)|fail) only[VV0,VV1,VV2,VV3,VV4,VV5,VV6,VV7,VV8,VV9,mkFnV,vargs,slotsL,opdsA,Nat.reduceEqDiff,Nat.reduceLT,Nat.reduceAdd,Nat.reduceBEq,Int.reduceAdd,Int.reduceSub,Int.reduceLT,Int.reduceLE,Int.reduceEq,Int.reduceNeg,↓reduceIte,reduceCtorEq,scL,scD,expand,List.replicate,c11])|apply gC_drawW|((first|apply gI_dec|apply gG_dec|apply gPG_dec|apply gI_var|apply gG_var|apply gPG_var)<;>intro _))
  refine callV_flat (by rw[hC];exact hck.flat rfl rfl) ?_
  repeat' (first|(simp (disch:=first|omega|assumption|exact bd (by with_unfolding_all rfl)|exact Or.inl rfl|exact Or.inl trivial|exact okL_map _ (fun _=>rfl) _|(simp only[VVlen]<;>omega)|fail) only[VV0,VV1,VV2,VV3,VV4,VV5,VV6,VV7,VV8,VV9,mkFnV,vargs,slotsL,opdsA,Nat.reduceEqDiff,Nat.reduceLT,Nat.reduceAdd,Nat.reduceBEq,Int.reduceAdd,Int.reduceSub,Int.reduceLT,Int.reduceLE,Int.reduceEq,Int.reduceNeg,↓reduceIte,reduceCtorEq,scL,scD,expand,List.replicate])|apply gC_drawW|((first|apply gI_dec|apply gG_dec|apply gPG_dec|apply gI_var|apply gG_var|apply gPG_var)<;>intro _))
  all_goals try (exfalso;omega)
  exact weak_flat rfl hn rfl
 obtain ⟨hl4,hcol⟩:=chk_facts h0
 have e:usedF l=((((cpt (srt l)).length:Nat):Int),0):=if_pos h0
 rw[e]
 repeat' (first|(simp (disch:=first|omega|assumption|exact bd (by with_unfolding_all rfl)|exact Or.inl rfl|exact Or.inl trivial|exact okL_map _ (fun _=>rfl) _|(simp only[VVlen]<;>omega)|fail) only[VV0,VV1,VV2,VV3,VV4,VV5,VV6,VV7,VV8,VV9,mkFnV,vargs,slotsL,opdsA,Nat.reduceEqDiff,Nat.reduceLT,Nat.reduceAdd,Nat.reduceBEq,Int.reduceAdd,Int.reduceSub,Int.reduceLT,Int.reduceLE,Int.reduceEq,Int.reduceNeg,↓reduceIte,reduceCtorEq,scL,scD,expand,List.replicate,c11])|apply gC_drawW|((first|apply gI_dec|apply gG_dec|apply gPG_dec|apply gI_var|apply gG_var|apply gPG_var)<;>intro _))
 refine callV_flat (by rw[hC];exact hck.flat rfl rfl) ?_
 rw[h0]
 repeat' (first|(simp (disch:=first|omega|assumption|exact bd (by with_unfolding_all rfl)|exact Or.inl rfl|exact Or.inl trivial|exact okL_map _ (fun _=>rfl) _|(simp only[VVlen]<;>omega)|fail) only[VV0,VV1,VV2,VV3,VV4,VV5,VV6,VV7,VV8,VV9,mkFnV,vargs,slotsL,opdsA,Nat.reduceEqDiff,Nat.reduceLT,Nat.reduceAdd,Nat.reduceBEq,Int.reduceAdd,Int.reduceSub,Int.reduceLT,Int.reduceLE,Int.reduceEq,Int.reduceNeg,↓reduceIte,reduceCtorEq,scL,scD,expand,List.replicate])|apply gC_drawW|((first|apply gI_dec|apply gG_dec|apply gPG_dec|apply gI_var|apply gG_var|apply gPG_var)<;>intro _))
 refine callV_of (by rw[hC];exact values_p w (n+4) s hs l) rfl rfl rfl ?_
 repeat' (first|(simp (disch:=first|omega|assumption|exact bd (by with_unfolding_all rfl)|exact Or.inl rfl|exact Or.inl trivial|exact okL_map _ (fun _=>rfl) _|(simp only[VVlen]<;>omega)|fail) only[VV0,VV1,VV2,VV3,VV4,VV5,VV6,VV7,VV8,VV9,mkFnV,vargs,slotsL,opdsA,Nat.reduceEqDiff,Nat.reduceLT,Nat.reduceAdd,Nat.reduceBEq,Int.reduceAdd,Int.reduceSub,Int.reduceLT,Int.reduceLE,Int.reduceEq,Int.reduceNeg,↓reduceIte,reduceCtorEq,scL,scD,expand,List.replicate,vsh,vshL,shH,shO,fzSL,fzS])|apply gC_drawW|((first|apply gI_dec|apply gG_dec|apply gPG_dec|apply gI_var|apply gG_var|apply gPG_var)<;>intro _))
 refine callV_weak (st':=⟨[(1,.box 22 1 [.sl s l.length (l.map iD)])],2,0⟩) (fun C' hn'=>?_) ?_
 ·have hw:=weak_keep (C:=C') (H:= [(1,.box 22 1 [.sl s l.length (l.map iD)]),(0,.row 22 1 false false [.sl s l.length (l.map iD)])]) (nx:=2) [1] (by simp) (by simp) (by rw[hn'];exact Nat.le_refl _)
  simpa [idR,renH,aget_cons,renO,vrenL,vren] using hw
 refine sorted_w w n hC s l (by omega) ?_
 by_cases hz:l= []
 ·subst hz
  have e0:srt []= []:=List.mergeSort_nil
  have e1:cpt []= []:=rfl
  rw[e0,e1]
  refine lib_w0 1 hC rfl (fun _ _=>rfl) 2 2 ?_
  repeat' (first|(simp (disch:=first|omega|assumption|exact bd (by with_unfolding_all rfl)|exact Or.inl rfl|exact Or.inl trivial|exact okL_map _ (fun _=>rfl) _|(simp only[VVlen]<;>omega)|fail) only[VV0,VV1,VV2,VV3,VV4,VV5,VV6,VV7,VV8,VV9,mkFnV,vargs,slotsL,opdsA,Nat.reduceEqDiff,Nat.reduceLT,Nat.reduceAdd,Nat.reduceBEq,Int.reduceAdd,Int.reduceSub,Int.reduceLT,Int.reduceLE,Int.reduceEq,Int.reduceNeg,↓reduceIte,reduceCtorEq,scL,scD,expand,List.replicate])|apply gC_drawW|((first|apply gI_dec|apply gG_dec|apply gPG_dec|apply gI_var|apply gG_var|apply gPG_var)<;>intro _))
  exact weak_flat rfl hn rfl
 ·have hsz:srt l ≠ []:=fun h=>hz (List.eq_nil_of_length_eq_zero (by rw[← srt_len,h];rfl))
  have hsl:=srt_len l
  refine compact_w hC rfl (fun _ _=>rfl) 2 2 3 (srt l) hsz (by omega) rfl (Nat.zero_le _) ?_
  repeat' (first|(simp (disch:=first|omega|assumption|exact bd (by with_unfolding_all rfl)|exact Or.inl rfl|exact Or.inl trivial|exact okL_map _ (fun _=>rfl) _|(simp only[VVlen]<;>omega)|fail) only[VV0,VV1,VV2,VV3,VV4,VV5,VV6,VV7,VV8,VV9,mkFnV,vargs,slotsL,opdsA,Nat.reduceEqDiff,Nat.reduceLT,Nat.reduceAdd,Nat.reduceBEq,Int.reduceAdd,Int.reduceSub,Int.reduceLT,Int.reduceLE,Int.reduceEq,Int.reduceNeg,↓reduceIte,reduceCtorEq,scL,scD,expand,List.replicate])|apply gC_drawW|((first|apply gI_dec|apply gG_dec|apply gPG_dec|apply gI_var|apply gG_var|apply gPG_var)<;>intro _))
  exact weak_flat rfl hn rfl
end
end Go.Proofs.YtkjkiodoighgnaaGreatDoor
namespace Go.Proofs.YtkjkiodoighgnaaGreatDoor
open Go Go.Itp
set_option maxRecDepth 100000
set_option maxHeartbeats 1000000
set_option linter.unusedSimpArgs false
set_option linter.unusedVariables false
theorem cnt_add (p q:Nat→Bool) (a:Nat) (h1:∀ x,x ≠ a→q x=p x) (h2:p a=false) (h3:q a=true):∀ N,(List.range N).countP q=(List.range N).countP p+if a<N then 1 else 0
 |0=>rfl
 |N+1=>by
  rw[List.range_succ,List.countP_append,List.countP_append,cnt_add p q a h1 h2 h3 N]
  by_cases h:N=a
  ·subst h
   simp[List.countP_cons,h2,h3]
  ·have:=h1 N h
   simp only[List.countP_cons,List.countP_nil,this]
   generalize (if p N=true then 1 else 0)=t
   by_cases h':a<N
   ·rw[if_pos h',if_pos (by omega)];omega
   ·rw[if_neg h',if_neg (by omega)];omega
def occ (l:List Int) (k:Nat):Nat:=(List.range 400).countP fun x:Nat=>decide ((x:Int) ∈ l.take k)
theorem take_mem {l:List Int} {k:Nat} (hk:k<l.length) (x:Int):x ∈ l.take (k+1)↔x ∈ l.take k∨x=l[k]! :=by
 rw[List.take_succ_eq_append_getElem hk,List.mem_append,List.mem_singleton,getElem!_pos l k hk]
theorem occ_old {l:List Int} {k:Nat} (hk:k<l.length) (h:l[k]! ∈ l.take k):occ l (k+1)=occ l k:=by
 unfold occ
 congr 1
 funext x
 rw[decide_eq_decide,take_mem hk]
 exact ⟨fun h'=>h'.elim id fun e=>e▸h,.inl⟩
theorem occ_new {l:List Int} {k:Nat} (hk:k<l.length) (h0:0≤l[k]!) (h1:l[k]! <400) (h:l[k]! ∉ l.take k):occ l (k+1)=occ l k+1:=by
 unfold occ
 rw[cnt_add (fun x:Nat=>decide ((x:Int) ∈ l.take k)) (fun x:Nat=>decide ((x:Int) ∈ l.take (k+1))) l[k]!.toNat (fun x hx=>?_) ?_ ?_ 400,if_pos (by omega)]
 ·rw[decide_eq_false_iff_not,show ((l[k]!.toNat:Nat):Int)=l[k]! by omega]
  exact h
 ·rw[decide_eq_true_iff,show ((l[k]!.toNat:Nat):Int)=l[k]! by omega,take_mem hk]
  exact .inr rfl
 ·rw[decide_eq_decide,take_mem hk]
  exact ⟨fun h'=>h'.elim id fun e=>absurd (by omega) hx,.inl⟩
theorem occ_same {l m:List Int} (h:∀ x,x ∈ l↔x ∈ m):occ l l.length=occ m m.length:=by
 unfold occ
 congr 1
 funext x
 rw[List.take_length,List.take_length,decide_eq_decide,h]
theorem rs_occ {l:List Int} (hc:∀ k,k<l.length→0≤l[k]! ∧l[k]! <400):∀ k,k≤l.length→(rs l k).2=occ l k∧∀ x:Nat,(rs l k).1 x ≠ 0↔(x:Int) ∈ l.take k
 |0,_=>by
  refine ⟨?_,fun x=>by simp[rs]⟩
  simp[rs,occ]
 |k+1,hk=>by
  obtain ⟨h1,h2⟩:=rs_occ hc k (by omega)
  obtain ⟨c0,c1⟩:=hc k (by omega)
  have hb:=rs_bnd l k
  have hx:=h2 l[k]!.toNat
  rw[show ((l[k]!.toNat:Nat):Int)=l[k]! by omega] at hx
  by_cases hf:(rs l k).1 l[k]!.toNat=0
  ·have hn:l[k]! ∉ l.take k:=fun h=>hx.2 h hf
   rw[rs,if_pos hf]
   refine ⟨by simp only;rw[h1,occ_new (by omega) c0 c1 hn];simp,fun x=>?_⟩
   rw[take_mem (by omega)]
   simp only
   by_cases he:x=l[k]!.toNat
   ·rw[if_pos he]
    exact ⟨fun _=> .inr (by omega),fun _=>by omega⟩
   ·rw[if_neg he,h2]
    exact ⟨.inl,fun h=>h.elim id fun e=>absurd (by omega) he⟩
  ·have hn:l[k]! ∈ l.take k:=hx.1 hf
   rw[rs,if_neg hf]
   refine ⟨by rw[h1,occ_old (by omega) hn],fun x=>?_⟩
   rw[take_mem (by omega),h2]
   exact ⟨.inl,fun h=>h.elim id fun e=>e▸hn⟩
theorem srt_mem {l:List Int} (x:Int):x ∈ srt l↔x ∈ l:=List.mem_mergeSort
theorem srt_le (l:List Int):∀ i j,i<j→j<(srt l).length→(srt l)[i]! ≤(srt l)[j]! :=by
 intro i j hij hj
 have hp:=List.pairwise_mergeSort (le:=fun x y:Int=>decide (x≤y)) (fun a b c h1 h2=>by
  simp only[decide_eq_true_eq] at*;omega) (fun a b=>by
  simp only[Bool.or_eq_true,decide_eq_true_eq];omega) l
 have:=List.pairwise_iff_getElem.1 hp i j (by exact Nat.lt_trans hij hj) hj hij
 simp only[decide_eq_true_eq] at this
 rw[getElem!_pos (srt l) i (by omega),getElem!_pos (srt l) j hj]
 exact this
def kp (z:List Int) (m:Nat):Nat:=((List.range m).filter fun j=>decide (j=0∨z[j]! ≠ z[j - 1]!)).length
theorem kp_succ (z:List Int) (m:Nat):kp z (m+1)=kp z m+if m=0∨z[m]! ≠ z[m - 1]! then 1 else 0:=by
 unfold kp
 rw[List.range_succ,List.filter_append,List.length_append]
 congr 1
 by_cases h:m=0∨z[m]! ≠ z[m - 1]!
 ·rw[if_pos h,List.filter_cons,if_pos (by simpa using h)];rfl
 ·rw[if_neg h,List.filter_cons,if_neg (by simpa using h)];rfl
theorem cpt_kp (z:List Int):(cpt z).length=kp z z.length:=by unfold cpt kp;rw[List.length_map]
theorem mem_take_iff {z:List Int} {m:Nat} (hm:m≤z.length) (x:Int):x ∈ z.take m↔∃ j,j<m∧z[j]! =x:=by
 constructor
 ·intro h
  obtain ⟨j,hj,e⟩:=List.getElem_of_mem h
  rw[List.length_take] at hj
  refine ⟨j,by omega,?_⟩
  rw[getElem!_pos z j (by omega),← e,List.getElem_take]
 ·rintro ⟨j,hj,rfl⟩
  rw[getElem!_pos z j (by omega)]
  refine List.mem_of_getElem (i:=j) (h:=by rw[List.length_take];omega) ?_
  rw[List.getElem_take]
theorem kp_occ {z:List Int} (hs:∀ i j,i<j→j<z.length→z[i]! ≤z[j]!) (hc:∀ k,k<z.length→0≤z[k]! ∧z[k]! <400):∀ m,m≤z.length→kp z m=occ z m
 |0,_=>by simp[kp,occ]
 |m+1,hm=>by
  rw[kp_succ,kp_occ hs hc m (by omega)]
  obtain ⟨c0,c1⟩:=hc m (by omega)
  by_cases h:m=0∨z[m]! ≠ z[m - 1]!
  ·rw[if_pos h,occ_new (by omega) c0 c1]
   intro hmem
   obtain ⟨j,hj,e⟩:=(mem_take_iff (by omega) _).1 hmem
   rcases h with h|h
   ·omega
   ·have h1:=hs (m - 1) m (by omega) (by omega)
    by_cases hjm:j=m - 1
    ·subst hjm;exact h e.symm
    ·have h2:=hs j (m - 1) (by omega) (by omega)
     omega
  ·rw[if_neg h,occ_old (by omega)]
   ·rfl
   ·have h0:m ≠ 0:=fun e=>h (.inl e)
    have h1:z[m]! =z[m - 1]! :=Classical.not_not.1 fun e=>h (.inr e)
    exact (mem_take_iff (by omega) _).2 ⟨m - 1,by omega,h1.symm⟩
theorem used_n {l:List Int} (h:chk l=0):(((cpt (srt l)).length:Nat):Int)=(rs l l.length).2:=by
 obtain ⟨hl4,hc⟩:=chk_facts h
 rw[(rs_occ hc l.length (Nat.le_refl _)).1,cpt_kp,kp_occ (srt_le l) (fun k hk=>?_) _ (Nat.le_refl _),occ_same (fun x=>srt_mem x)]
 have:=chk_mem h (srt l)[k]! ((srt_mem _).1 (by rw[getElem!_pos _ k hk];exact List.getElem_mem hk))
 exact this
def nU (l:List Int):Int:=(rs l l.length).2
theorem used_eq {l:List Int} (h:chk l=0):usedF l=(nU l,0):=by
 unfold usedF nU
 rw[if_pos h,used_n h]
end Go.Proofs.YtkjkiodoighgnaaGreatDoor
namespace Go.Proofs.YtkjkiodoighgnaaGreatDoor
open Go Go.Itp
set_option maxRecDepth 100000
set_option maxHeartbeats 1000000
set_option linter.unusedSimpArgs false
set_option linter.unusedVariables false
structure MInv (a b:List Int) (k:Nat) (o:Nat→Int) (t:Nat→Bool):Prop where
 seen:∀ i,i<k→o a[i]!.toNat=b[i]!
 fresh:∀ x,(∀ i,i<k→a[i]!.toNat ≠ x)→o x= -1
 taken:∀ y,t y=true↔∃ i,i<k∧b[i]!.toNat=y
end Go.Proofs.YtkjkiodoighgnaaGreatDoor
namespace Go.Proofs.YtkjkiodoighgnaaGreatDoor
open Go Go.Itp
set_option maxRecDepth 100000
set_option maxHeartbeats 2000000
set_option linter.unusedSimpArgs false
set_option linter.unusedVariables false
end Go.Proofs.YtkjkiodoighgnaaGreatDoor
namespace Go.Proofs.YtkjkiodoighgnaaGreatDoor
open Go Go.Itp
set_option maxRecDepth 100000
set_option maxHeartbeats 2000000
set_option linter.unusedSimpArgs false
set_option linter.unusedVariables false
end Go.Proofs.YtkjkiodoighgnaaGreatDoor
namespace Go.Proofs.YtkjkiodoighgnaaGreatDoor
open Go Go.Itp
set_option maxRecDepth 100000
set_option maxHeartbeats 1000000
set_option linter.unusedSimpArgs false
def repF (a:List Int) (i:Nat):Int:=a[i % a.length]!
theorem st_get (f:Nat→Int) (T k i:Nat) (h:i<(stTo f T k).length):(stTo f T k)[i]=if i<k then f i else 0:=by simp[stTo]
theorem rep_first (a:List Int) (T:Nat) (h:a.length≤T):a.map iD++((stTo (repF a) T 0).map iD).drop (a.map iD).length=(stTo (repF a) T a.length).map iD:=by
 rw[← List.map_drop,← List.map_append,List.length_map]
 congr 1
 refine List.ext_getElem (by simp[stTo_len];omega) fun i h1 h2=>?_
 rw[st_get,List.getElem_append]
 by_cases hi:i<a.length
 ·rw[dif_pos hi,if_pos hi,repF,Nat.mod_eq_of_lt hi,getElem!_pos a i hi]
 ·rw[dif_neg hi,if_neg hi,List.getElem_drop,st_get,if_neg (by omega)]
theorem rep_copy (a:List Int) (T k m:Nat) (hd:a.length ∣ k) (hm:m≤k) (hT:k+m≤T):
  (stTo (repF a) T k).take k++(stTo (repF a) T k).take m++(stTo (repF a) T k).drop (k+m)=stTo (repF a) T (k+m):=by
 have hl:=stTo_len (repF a) T k
 refine List.ext_getElem (by simp[stTo_len];omega) fun i h1 h2=>?_
 rw[st_get,List.getElem_append]
 have hi:i<T:=by rw[stTo_len] at h2;exact h2
 split
 ·rename_i h3
  rw[List.getElem_append]
  have h3':i<k+m:=by simp[hl] at h3;omega
  rw[if_pos h3']
  split
  ·rename_i h4
   have h4':i<k:=by simp[hl] at h4;omega
   rw[List.getElem_take,st_get,if_pos h4']
  ·rename_i h4
   have h4':¬ i<k:=by simp[hl] at h4;omega
   rw[List.getElem_take,st_get]
   simp only[List.length_take,hl]
   rw[show min k T=k by omega,if_pos (by omega)]
   unfold repF
   congr 1
   obtain ⟨c,rfl⟩:=hd
   have e:i=(i - a.length*c)+a.length*c:=by omega
   conv=>rhs;rw[e]
   rw[Nat.add_mul_mod_self_left]
 ·rename_i h3
  have h3':¬ i<k+m:=by simp[hl] at h3;omega
  rw[List.getElem_drop,st_get,if_neg h3']
  simp only[List.length_append,List.length_take,hl]
  rw[if_neg (by omega)]
section
variable (w:World) (n:Nat)
theorem repeat_p (s:Nat) (a:List Int) (q:Nat) (ha:0<a.length) (ha2:a.length≤5000) (hq:q≤5000) (hT:a.length*q≤5000):
  VSpec (EN w (n+3)) 26 [.sl s a.length (a.map iD),.sc (.int .i64 q)] (.ref 0 0 (a.length*q) (a.length*q)) ⟨[(0,.row 3 1 false false ((stTo (repF a) (a.length*q) (a.length*q)).map iD))],1,0⟩:=by
 refine vspec_g rfl rfl (fun _ _=>rfl) (Nat.le_of_ble_eq_true rfl) (oldVals w) retOK_ref rfl fun C hC h0=>?_
 have hwa:=wrapU a.length (by omega)
 have hwq:=wrapU q (by omega)
 have hmul:=fun st=>(mul_p w n a.length q (by omega) (by omega)).of hC rfl st rfl
 obtain ⟨T,hTe⟩:∃ T,a.length*q=T:=⟨_,rfl⟩
 rw[hTe] at hmul hT ⊢
 have hz:=stTo_zero (repF a) T
 have ham:(a.map iD).length=a.length*1:=by simp
 have hsl:∀ k,(stTo (repF a) T k).length=T:=stTo_len (repF a) T
 repeat' (first|(simp (disch:=first|omega|assumption|exact bd (by with_unfolding_all rfl)|exact Or.inl rfl|exact Or.inl trivial|exact okL_map _ (fun _=>rfl) _|(simp only[VVlen]<;>omega)|fail) only[VV0,VV1,VV2,VV3,VV4,VV5,VV6,VV7,VV8,VV9,mkFnV,vargs,slotsL,opdsA,Nat.reduceEqDiff,Nat.reduceLT,Nat.reduceAdd,Nat.reduceBEq,Int.reduceAdd,Int.reduceSub,Int.reduceLT,Int.reduceLE,Int.reduceEq,Int.reduceNeg,↓reduceIte,reduceCtorEq,scL,scD,expand,List.replicate,c26,hwa,hwq])|apply gC_drawW|((first|apply gI_dec|apply gG_dec|apply gPG_dec|apply gI_var|apply gG_var|apply gPG_var)<;>intro _))
 refine callV_flat (hmul _) ?_
 by_cases hq0:q=0
 ·have hT0:T=0:=by rw[← hTe,hq0,Nat.mul_zero]
  subst hT0
  have hvc:vcopy ⟨[(0,.row 3 1 false false [])],1,0⟩ 1 (.ref 0 0 0 0) (.sl s a.length (a.map iD))=some (.sc (.int .i64 0),⟨[(0,.row 3 1 false false [])],1,0⟩):=by
   have hs:srcD [(0,.row 3 1 false false [])] 1 (Nat.min a.length 0) (.sl s a.length (a.map iD))=some ([],[]):=by
    simp[srcD]
   simp only[vcopy,lenV,lenS,Option.bind_some,hs]
   simp[okL,aget_cons,putL,aset]
  repeat' (first|(simp (disch:=first|omega|assumption|exact bd (by with_unfolding_all rfl)|exact Or.inl rfl|exact Or.inl trivial|exact okL_map _ (fun _=>rfl) _|(simp only[VVlen]<;>omega)|fail) only[VV0,VV1,VV2,VV3,VV4,VV5,VV6,VV7,VV8,VV9,mkFnV,vargs,slotsL,opdsA,Nat.reduceEqDiff,Nat.reduceLT,Nat.reduceAdd,Nat.reduceBEq,Int.reduceAdd,Int.reduceSub,Int.reduceLT,Int.reduceLE,Int.reduceEq,Int.reduceNeg,↓reduceIte,reduceCtorEq,scL,scD,expand,List.replicate,List.replicate_zero,hvc])|apply gC_drawW|((first|apply gI_dec|apply gG_dec|apply gPG_dec|apply gI_var|apply gG_var|apply gPG_var)<;>intro _))
  refine g_while (fun m fr t=>fr= [(7,.ref 0 0 0 0),(8,.sc (.int .i64 0))]∧t=⟨[(0,.row 3 1 false false [])],1,0⟩) 0 ?_ ⟨_,_,.refl _ _,rfl,rfl⟩ ?_
  ·rw[hC,callP_rounds];unfold many;omega
  ·rintro m fr t ⟨rfl,rfl⟩
   repeat' (first|(simp (disch:=first|omega|assumption|exact bd (by with_unfolding_all rfl)|exact Or.inl rfl|exact Or.inl trivial|exact okL_map _ (fun _=>rfl) _|(simp only[VVlen]<;>omega)|fail) only[VV0,VV1,VV2,VV3,VV4,VV5,VV6,VV7,VV8,VV9,mkFnV,vargs,slotsL,opdsA,Nat.reduceEqDiff,Nat.reduceLT,Nat.reduceAdd,Nat.reduceBEq,Int.reduceAdd,Int.reduceSub,Int.reduceLT,Int.reduceLE,Int.reduceEq,Int.reduceNeg,↓reduceIte,reduceCtorEq,scL,scD,expand,List.replicate,c26l0])|apply gC_drawW|((first|apply gI_dec|apply gG_dec|apply gPG_dec|apply gI_var|apply gG_var|apply gPG_var)<;>intro _))
   exact .refl _ _
 ·have haT:a.length≤T:=by rw[← hTe];exact Nat.le_mul_of_pos_right _ (by omega)
  have hdT:a.length ∣ T:=⟨q,hTe.symm⟩
  have hvc:vcopy ⟨[(0,.row 3 1 false false (List.replicate T (.sc (.int .i64 0))))],1,0⟩ 1 (.ref 0 0 T T) (.sl s a.length (a.map iD))=some (.sc (.int .i64 a.length),⟨[(0,.row 3 1 false false ((stTo (repF a) T a.length).map iD))],1,0⟩):=by
   rw[vcopy_row (H:= [(0,.row 3 1 false false (List.replicate T (.sc (.int .i64 0))))]) (m:=a.length) (cs:=a.map iD) 1 0 1 0 T T 3 1 false (List.replicate T (.sc (.int .i64 0))) (.sl s a.length (a.map iD)) rfl (Nat.zero_le _) rfl (by simp only[srcD];rw[if_pos ⟨by simp,Nat.le_refl _⟩,List.take_of_length_le (by simp)]) haT (okL_map _ (fun _=>rfl) _) (by simp;omega)]
   rw[← hz,rep_first a T haT]
   rfl
  repeat' (first|(simp (disch:=first|omega|assumption|exact bd (by with_unfolding_all rfl)|exact Or.inl rfl|exact Or.inl trivial|exact okL_map _ (fun _=>rfl) _|(simp only[VVlen]<;>omega)|fail) only[VV0,VV1,VV2,VV3,VV4,VV5,VV6,VV7,VV8,VV9,mkFnV,vargs,slotsL,opdsA,Nat.reduceEqDiff,Nat.reduceLT,Nat.reduceAdd,Nat.reduceBEq,Int.reduceAdd,Int.reduceSub,Int.reduceLT,Int.reduceLE,Int.reduceEq,Int.reduceNeg,↓reduceIte,reduceCtorEq,scL,scD,expand,List.replicate,hvc])|apply gC_drawW|((first|apply gI_dec|apply gG_dec|apply gPG_dec|apply gI_var|apply gG_var|apply gPG_var)<;>intro _))
  refine g_while (fun m fr t=>∃ k:Nat,m=T - k∧0<k∧k≤T∧a.length ∣ k∧fr= [(7,.ref 0 0 T T),(8,.sc (.int .i64 k))]∧t=⟨[(0,.row 3 1 false false ((stTo (repF a) T k).map iD))],1,0⟩) (T - a.length) ?_ ⟨_,_,.refl _ _,a.length,rfl,ha,haT,⟨1,by omega⟩,rfl,rfl⟩ ?_
  ·rw[hC,callP_rounds];unfold many;omega
  ·rintro m fr t ⟨k,rfl,hk0,hk,hdk,rfl,rfl⟩
   by_cases hlt:k<T
   ·have h1:=vslc_refLo 1 0 T T k .i64 (by unfold big;omega) hk hlt (Nat.le_refl _)
    have h2:=vslc_refHi 1 0 T T k .i64 (by unfold big;omega) hk
    obtain ⟨m,hm⟩:∃ m,Nat.min k (T - k)=m:=⟨_,rfl⟩
    have hm':m=min k (T - k):=hm.symm
    have hrc:=rep_copy a T k m hdk (by omega) (by omega)
    have hcp:dCopy ⟨[(0,.row 3 1 false false ((stTo (repF a) T k).map iD))],1,0⟩ 1 (some (.ref 0 k (T - k) (T - k))) (some (.ref 0 0 k T))=some (.sc (.int .i64 m),⟨[(0,.row 3 1 false false ((stTo (repF a) T (k+m)).map iD))],1,0⟩,⟨[0,0],[0,0],[]⟩):=by
     have hs:srcD [(0,.row 3 1 false false ((stTo (repF a) T k).map iD))] 1 (Nat.min k (T - k)) (.ref 0 0 k T)=some (((stTo (repF a) T k).take m).map iD,[]):=by
      rw[hm]
      simp only[srcD,aget_cons,if_true,List.length_map,hsl,Nat.mul_one,Nat.zero_add,List.drop_zero]
      rw[if_pos (by omega),List.map_take]
     have hp:putL ((stTo (repF a) T k).map iD) k (((stTo (repF a) T k).take m).map iD)=some ((stTo (repF a) T (k+m)).map iD):=by
      rw[putL_mid _ _ _ (by simp[hsl];omega),← hrc]
      simp only[List.map_append,List.map_take,List.map_drop,Nat.mul_one,List.length_map,List.length_take,hsl]
      rw[show min m T=m by omega]
     simp only[dCopy,aget_cons,if_true,hs,Option.bind_some]
     rw[if_pos (by rw[show okL (((stTo (repF a) T k).take m).map iD)=true from okL_map _ (fun _=>rfl) _];simp[Obj.fz]),hp,hm]
     rfl
    have hkm:(k:Int)+(m:Int)=((k+m:Nat):Int):=by simp
    repeat' (first|(simp (disch:=first|omega|assumption|exact bd (by with_unfolding_all rfl)|exact Or.inl rfl|exact Or.inl trivial|exact okL_map _ (fun _=>rfl) _|(simp only[VVlen]<;>omega)|fail) only[VV0,VV1,VV2,VV3,VV4,VV5,VV6,VV7,VV8,VV9,mkFnV,vargs,slotsL,opdsA,Nat.reduceEqDiff,Nat.reduceLT,Nat.reduceAdd,Nat.reduceBEq,Int.reduceAdd,Int.reduceSub,Int.reduceLT,Int.reduceLE,Int.reduceEq,Int.reduceNeg,↓reduceIte,reduceCtorEq,scL,scD,expand,List.replicate,c26l0,h1,h2,hcp,hkm])|apply gC_drawW|((first|apply gI_dec|apply gG_dec|apply gPG_dec|apply gI_var|apply gG_var|apply gPG_var)<;>intro _))
    refine ⟨_,_,_,by omega,.refl _ _,k+m,rfl,by omega,by omega,?_,rfl,rfl⟩
    by_cases h3:k≤T - k
    ·rw[show k+m=k+k by omega]
     exact Nat.dvd_add hdk hdk
    ·rw[show k+m=T by omega]
     exact hdT
   ·have:k=T:=by omega
    subst this
    repeat' (first|(simp (disch:=first|omega|assumption|exact bd (by with_unfolding_all rfl)|exact Or.inl rfl|exact Or.inl trivial|exact okL_map _ (fun _=>rfl) _|(simp only[VVlen]<;>omega)|fail) only[VV0,VV1,VV2,VV3,VV4,VV5,VV6,VV7,VV8,VV9,mkFnV,vargs,slotsL,opdsA,Nat.reduceEqDiff,Nat.reduceLT,Nat.reduceAdd,Nat.reduceBEq,Int.reduceAdd,Int.reduceSub,Int.reduceLT,Int.reduceLE,Int.reduceEq,Int.reduceNeg,↓reduceIte,reduceCtorEq,scL,scD,expand,List.replicate,c26l0])|apply gC_drawW|((first|apply gI_dec|apply gG_dec|apply gPG_dec|apply gI_var|apply gG_var|apply gPG_var)<;>intro _))
    exact .refl _ _
def tileF (a:List Int) (p:Int):List Int × Int:=
 if chk a ≠ 0 then ([],chk a) else if p<0 then ([],2) else if a.length=0 then ([],0) else if (400 / a.length:Nat)<p then ([],4) else ((List.range (a.length*p.toNat)).map (repF a),0)
theorem ptile_p (s:Nat) (a:List Int) (p:Int) (hs:s ≠ 1) (ha:a.length≤5000):VSpec (EN w (n+4)) 10 [.sl s a.length (a.map iD),.sc (.int .i64 p)] (finV (tileF a p)) ⟨[],0,0⟩:=by
 refine vspec_g rfl rfl (fun _ _=>rfl) (Nat.le_of_ble_eq_true rfl) (oldVals w) retOK_fin rfl fun C hC h0=>?_
 have o1:okD (.sl s a.length (a.map iD))=true:=okD_ne hs
 have hck:=check_p w (n+2) [(s,a)] (by simp) (fun k hk=>by
  rcases k with _|k
  ·show a.length≤_;omega
  ·simp at hk)
 rw[chkL_one] at hck
 by_cases c1:chk a ≠ 0
 ·have e:tileF a p=([],chk a):=if_pos c1
  rw[e]
  generalize chk a=x at c1 hck
  repeat' (first|(simp (disch:=first|omega|assumption|exact bd (by with_unfolding_all rfl)|exact Or.inl rfl|exact Or.inl trivial|exact okL_map _ (fun _=>rfl) _|(simp only[VVlen]<;>omega)|fail) only[VV0,VV1,VV2,VV3,VV4,VV5,VV6,VV7,VV8,VV9,mkFnV,vargs,slotsL,opdsA,Nat.reduceEqDiff,Nat.reduceLT,Nat.reduceAdd,Nat.reduceBEq,Int.reduceAdd,Int.reduceSub,Int.reduceLT,Int.reduceLE,Int.reduceEq,Int.reduceNeg,↓reduceIte,reduceCtorEq,scL,scD,expand,List.replicate,c10])|apply gC_drawW|((first|apply gI_dec|apply gG_dec|apply gPG_dec|apply gI_var|apply gG_var|apply gPG_var)<;>intro _))
  refine callV_flat (by rw[hC];exact hck.flat rfl rfl) ?_
  repeat' (first|(simp (disch:=first|omega|assumption|exact bd (by with_unfolding_all rfl)|exact Or.inl rfl|exact Or.inl trivial|exact okL_map _ (fun _=>rfl) _|(simp only[VVlen]<;>omega)|fail) only[VV0,VV1,VV2,VV3,VV4,VV5,VV6,VV7,VV8,VV9,mkFnV,vargs,slotsL,opdsA,Nat.reduceEqDiff,Nat.reduceLT,Nat.reduceAdd,Nat.reduceBEq,Int.reduceAdd,Int.reduceSub,Int.reduceLT,Int.reduceLE,Int.reduceEq,Int.reduceNeg,↓reduceIte,reduceCtorEq,scL,scD,expand,List.replicate])|apply gC_drawW|((first|apply gI_dec|apply gG_dec|apply gPG_dec|apply gI_var|apply gG_var|apply gPG_var)<;>intro _))
  all_goals first|exact weak_finNil h0 rfl|contradiction
 have c1':chk a=0:=Classical.not_not.1 c1
 have hc4:=chk_len c1'
 rw[c1'] at hck
 by_cases c2:p<0
 ·have e:tileF a p=([],2):=by unfold tileF;rw[if_neg c1,if_pos c2]
  rw[e]
  repeat' (first|(simp (disch:=first|omega|assumption|exact bd (by with_unfolding_all rfl)|exact Or.inl rfl|exact Or.inl trivial|exact okL_map _ (fun _=>rfl) _|(simp only[VVlen]<;>omega)|fail) only[VV0,VV1,VV2,VV3,VV4,VV5,VV6,VV7,VV8,VV9,mkFnV,vargs,slotsL,opdsA,Nat.reduceEqDiff,Nat.reduceLT,Nat.reduceAdd,Nat.reduceBEq,Int.reduceAdd,Int.reduceSub,Int.reduceLT,Int.reduceLE,Int.reduceEq,Int.reduceNeg,↓reduceIte,reduceCtorEq,scL,scD,expand,List.replicate,c10])|apply gC_drawW|((first|apply gI_dec|apply gG_dec|apply gPG_dec|apply gI_var|apply gG_var|apply gPG_var)<;>intro _))
  refine callV_flat (by rw[hC];exact hck.flat rfl rfl) ?_
  repeat' (first|(simp (disch:=first|omega|assumption|exact bd (by with_unfolding_all rfl)|exact Or.inl rfl|exact Or.inl trivial|exact okL_map _ (fun _=>rfl) _|(simp only[VVlen]<;>omega)|fail) only[VV0,VV1,VV2,VV3,VV4,VV5,VV6,VV7,VV8,VV9,mkFnV,vargs,slotsL,opdsA,Nat.reduceEqDiff,Nat.reduceLT,Nat.reduceAdd,Nat.reduceBEq,Int.reduceAdd,Int.reduceSub,Int.reduceLT,Int.reduceLE,Int.reduceEq,Int.reduceNeg,↓reduceIte,reduceCtorEq,scL,scD,expand,List.replicate])|apply gC_drawW|((first|apply gI_dec|apply gG_dec|apply gPG_dec|apply gI_var|apply gG_var|apply gPG_var)<;>intro _))
  exact weak_finNil h0 rfl
 obtain ⟨q,rfl⟩:∃ q:Nat,p=q:=⟨p.toNat,by omega⟩
 by_cases c3:a.length=0
 ·have e:tileF a q=([],0):=by unfold tileF;rw[if_neg c1,if_neg c2,if_pos c3]
  rw[e]
  obtain rfl:a= []:=List.eq_nil_of_length_eq_zero c3
  have o2:okD (.sl s 0 [])=true:=okD_ne hs
  repeat' (first|(simp (disch:=first|omega|assumption|exact bd (by with_unfolding_all rfl)|exact Or.inl rfl|exact Or.inl trivial|exact okL_map _ (fun _=>rfl) _|(simp only[VVlen]<;>omega)|fail) only[VV0,VV1,VV2,VV3,VV4,VV5,VV6,VV7,VV8,VV9,mkFnV,vargs,slotsL,opdsA,Nat.reduceEqDiff,Nat.reduceLT,Nat.reduceAdd,Nat.reduceBEq,Int.reduceAdd,Int.reduceSub,Int.reduceLT,Int.reduceLE,Int.reduceEq,Int.reduceNeg,↓reduceIte,reduceCtorEq,scL,scD,expand,List.replicate,c10])|apply gC_drawW|((first|apply gI_dec|apply gG_dec|apply gPG_dec|apply gI_var|apply gG_var|apply gPG_var)<;>intro _))
  refine callV_flat (by rw[hC];exact hck.flat rfl rfl) ?_
  repeat' (first|(simp (disch:=first|omega|assumption|exact bd (by with_unfolding_all rfl)|exact Or.inl rfl|exact Or.inl trivial|exact okL_map _ (fun _=>rfl) _|(simp only[VVlen]<;>omega)|fail) only[VV0,VV1,VV2,VV3,VV4,VV5,VV6,VV7,VV8,VV9,mkFnV,vargs,slotsL,opdsA,Nat.reduceEqDiff,Nat.reduceLT,Nat.reduceAdd,Nat.reduceBEq,Int.reduceAdd,Int.reduceSub,Int.reduceLT,Int.reduceLE,Int.reduceEq,Int.reduceNeg,↓reduceIte,reduceCtorEq,scL,scD,expand,List.replicate])|apply gC_drawW|((first|apply gI_dec|apply gG_dec|apply gPG_dec|apply gI_var|apply gG_var|apply gPG_var)<;>intro _))
  exact weak_finNil h0 rfl
 have hd:(400:Int) / (a.length:Int)=((400 / a.length:Nat):Int):=by simp
 have hdl:400 / a.length≤400:=Nat.div_le_self _ _
 by_cases c4:((400 / a.length:Nat):Int)<q
 ·have e:tileF a q=([],4):=by unfold tileF;rw[if_neg c1,if_neg c2,if_neg c3,if_pos c4]
  rw[e]
  obtain ⟨D,hD⟩:∃ D,400 / a.length=D:=⟨_,rfl⟩
  rw[hD] at hd hdl c4
  repeat' (first|(simp (disch:=first|omega|assumption|exact bd (by with_unfolding_all rfl)|exact Or.inl rfl|exact Or.inl trivial|exact okL_map _ (fun _=>rfl) _|(simp only[VVlen]<;>omega)|fail) only[VV0,VV1,VV2,VV3,VV4,VV5,VV6,VV7,VV8,VV9,mkFnV,vargs,slotsL,opdsA,Nat.reduceEqDiff,Nat.reduceLT,Nat.reduceAdd,Nat.reduceBEq,Int.reduceAdd,Int.reduceSub,Int.reduceLT,Int.reduceLE,Int.reduceEq,Int.reduceNeg,↓reduceIte,reduceCtorEq,scL,scD,expand,List.replicate,c10])|apply gC_drawW|((first|apply gI_dec|apply gG_dec|apply gPG_dec|apply gI_var|apply gG_var|apply gPG_var)<;>intro _))
  refine callV_flat (by rw[hC];exact hck.flat rfl rfl) ?_
  repeat' (first|(simp (disch:=first|omega|assumption|exact bd (by with_unfolding_all rfl)|exact Or.inl rfl|exact Or.inl trivial|exact okL_map _ (fun _=>rfl) _|(simp only[VVlen]<;>omega)|fail) only[VV0,VV1,VV2,VV3,VV4,VV5,VV6,VV7,VV8,VV9,mkFnV,vargs,slotsL,opdsA,Nat.reduceEqDiff,Nat.reduceLT,Nat.reduceAdd,Nat.reduceBEq,Int.reduceAdd,Int.reduceSub,Int.reduceLT,Int.reduceLE,Int.reduceEq,Int.reduceNeg,↓reduceIte,reduceCtorEq,scL,scD,expand,List.replicate,hd])|apply gC_drawW|((first|apply gI_dec|apply gG_dec|apply gPG_dec|apply gI_var|apply gG_var|apply gPG_var)<;>intro _))
  exact weak_finNil h0 rfl
 have hqd:q≤400 / a.length:=by omega
 have hT:a.length*q≤400:=by
  have:=Nat.mul_le_mul_left a.length hqd
  have h2:=Nat.mul_div_le 400 a.length
  omega
 have e:tileF a q=(stTo (repF a) (a.length*q) (a.length*q),0):=by unfold tileF;rw[if_neg c1,if_neg c2,if_neg c3,if_neg c4,stTo_end];rfl
 rw[e]
 obtain ⟨D,hD⟩:∃ D,400 / a.length=D:=⟨_,rfl⟩
 rw[hD] at hd hdl c4 hqd
 repeat' (first|(simp (disch:=first|omega|assumption|exact bd (by with_unfolding_all rfl)|exact Or.inl rfl|exact Or.inl trivial|exact okL_map _ (fun _=>rfl) _|(simp only[VVlen]<;>omega)|fail) only[VV0,VV1,VV2,VV3,VV4,VV5,VV6,VV7,VV8,VV9,mkFnV,vargs,slotsL,opdsA,Nat.reduceEqDiff,Nat.reduceLT,Nat.reduceAdd,Nat.reduceBEq,Int.reduceAdd,Int.reduceSub,Int.reduceLT,Int.reduceLE,Int.reduceEq,Int.reduceNeg,↓reduceIte,reduceCtorEq,scL,scD,expand,List.replicate,c10])|apply gC_drawW|((first|apply gI_dec|apply gG_dec|apply gPG_dec|apply gI_var|apply gG_var|apply gPG_var)<;>intro _))
 refine callV_flat (by rw[hC];exact hck.flat rfl rfl) ?_
 repeat' (first|(simp (disch:=first|omega|assumption|exact bd (by with_unfolding_all rfl)|exact Or.inl rfl|exact Or.inl trivial|exact okL_map _ (fun _=>rfl) _|(simp only[VVlen]<;>omega)|fail) only[VV0,VV1,VV2,VV3,VV4,VV5,VV6,VV7,VV8,VV9,mkFnV,vargs,slotsL,opdsA,Nat.reduceEqDiff,Nat.reduceLT,Nat.reduceAdd,Nat.reduceBEq,Int.reduceAdd,Int.reduceSub,Int.reduceLT,Int.reduceLE,Int.reduceEq,Int.reduceNeg,↓reduceIte,reduceCtorEq,scL,scD,expand,List.replicate,hd])|apply gC_drawW|((first|apply gI_dec|apply gG_dec|apply gPG_dec|apply gI_var|apply gG_var|apply gPG_var)<;>intro _))
 refine callV_of (by rw[hC];exact repeat_p w n s a q (by omega) ha (by omega) (by omega)) rfl rfl rfl ?_
 repeat' (first|(simp (disch:=first|omega|assumption|exact bd (by with_unfolding_all rfl)|exact Or.inl rfl|exact Or.inl trivial|exact okL_map _ (fun _=>rfl) _|(simp only[VVlen]<;>omega)|fail) only[VV0,VV1,VV2,VV3,VV4,VV5,VV6,VV7,VV8,VV9,mkFnV,vargs,slotsL,opdsA,Nat.reduceEqDiff,Nat.reduceLT,Nat.reduceAdd,Nat.reduceBEq,Int.reduceAdd,Int.reduceSub,Int.reduceLT,Int.reduceLE,Int.reduceEq,Int.reduceNeg,↓reduceIte,reduceCtorEq,scL,scD,expand,List.replicate,vsh,shH,shO,fzSL,fzS])|apply gC_drawW|((first|apply gI_dec|apply gG_dec|apply gPG_dec|apply gI_var|apply gG_var|apply gPG_var)<;>intro _))
 have hsl:=stTo_len (repF a) (a.length*q) (a.length*q)
 generalize hX:stTo (repF a) (a.length*q) (a.length*q)=X at hsl ⊢
 rw[← hsl]
 exact weak_fin (C:=C) (snap_ref rfl) rfl (.inl (by omega)) h0 rfl
end
end Go.Proofs.YtkjkiodoighgnaaGreatDoor
namespace Go.Proofs.YtkjkiodoighgnaaGreatDoor
open Go Go.Itp
set_option maxRecDepth 100000
set_option maxHeartbeats 2000000
set_option linter.unusedSimpArgs false
section
variable (w:World) (n:Nat)
end
end Go.Proofs.YtkjkiodoighgnaaGreatDoor
namespace Go.Proofs.YtkjkiodoighgnaaGreatDoor
open Go Go.Itp
set_option maxRecDepth 100000
set_option maxHeartbeats 1000000
set_option linter.unusedSimpArgs false
set_option linter.unusedVariables false
theorem weak_finH {C:Ctx} {t o:Nat} {z:Bool} {l:List Int} {x:Value} {st:VSt} (ho:aget st.own o=some (.gro t 1 z (l.map iD))) (h0:C.w0.nx=0) (hro:st.ro=0):Weak C [(0,.tup [.gr 2 o l.length,.sc x])] st [(0,.tup [.sl 3 l.length (l.map iD),.sc x])] ⟨[],0,0⟩:=by
 refine weak_fin (snap_gr ho) ?_ (.inl (by omega)) h0 hro
 exact rowsB_gro _ _ _ _ _ _ _ _ ho (by rw[hro];exact Nat.zero_le _) rfl
section
variable (w:World) (n:Nat)
theorem jn_p (s s':Nat) (a b:List Int) (hs:s ≠ 1) (hs':s' ≠ 1) (ha:a.length≤5000) (hb:b.length≤5000):VSpec (EN w (n+3)) 7 [.sl s a.length (a.map iD),.sl s' b.length (b.map iD)] (finV (joinF a b)) ⟨[],0,0⟩:=by
 refine vspec_g rfl rfl (fun _ _=>rfl) (Nat.le_of_ble_eq_true rfl) (oldVals w) retOK_fin rfl fun C hC h0=>?_
 have o1:okD (.sl s a.length (a.map iD))=true:=okD_ne hs
 have o2:okD (.sl s' b.length (b.map iD))=true:=okD_ne hs'
 have hlen:∀ k,k< [(s,a),(s',b)].length→ [(s,a),(s',b)][k]!.2.length≤140737488351232:=fun k hk=>by
  rcases k with _|_|k
  ·show a.length≤_;omega
  ·show b.length≤_;omega
  ·simp at hk;omega
 have hck:=check_p w (n+1) [(s,a),(s',b)] (by simp) hlen
 have ec:chkL [(s,a),(s',b)]=chkL [(0,a),(0,b)]:=rfl
 rw[ec] at hck
 by_cases c1:chkL [(0,a),(0,b)] ≠ 0
 ·have e:joinF a b=([],chkL [(0,a),(0,b)]):=if_pos c1
  rw[e]
  generalize chkL [(0,a),(0,b)]=x at c1 hck
  repeat' (first|(simp (disch:=first|omega|assumption|exact bd (by with_unfolding_all rfl)|exact Or.inl rfl|exact Or.inl trivial|exact okL_map _ (fun _=>rfl) _|(simp only[VVlen]<;>omega)|fail) only[VV0,VV1,VV2,VV3,VV4,VV5,VV6,VV7,VV8,VV9,mkFnV,vargs,slotsL,opdsA,Nat.reduceEqDiff,Nat.reduceLT,Nat.reduceAdd,Nat.reduceBEq,Int.reduceAdd,Int.reduceSub,Int.reduceLT,Int.reduceLE,Int.reduceEq,Int.reduceNeg,↓reduceIte,reduceCtorEq,scL,scD,expand,List.replicate,c7,row2V_sl])|apply gC_drawW|((first|apply gI_dec|apply gG_dec|apply gPG_dec|apply gI_var|apply gG_var|apply gPG_var)<;>intro _))
  refine callV_flat (by rw[hC];exact hck.flat rfl rfl) ?_
  repeat' (first|(simp (disch:=first|omega|assumption|exact bd (by with_unfolding_all rfl)|exact Or.inl rfl|exact Or.inl trivial|exact okL_map _ (fun _=>rfl) _|(simp only[VVlen]<;>omega)|fail) only[VV0,VV1,VV2,VV3,VV4,VV5,VV6,VV7,VV8,VV9,mkFnV,vargs,slotsL,opdsA,Nat.reduceEqDiff,Nat.reduceLT,Nat.reduceAdd,Nat.reduceBEq,Int.reduceAdd,Int.reduceSub,Int.reduceLT,Int.reduceLE,Int.reduceEq,Int.reduceNeg,↓reduceIte,reduceCtorEq,scL,scD,expand,List.replicate])|apply gC_drawW|((first|apply gI_dec|apply gG_dec|apply gPG_dec|apply gI_var|apply gG_var|apply gPG_var)<;>intro _))
  all_goals first|exact weak_finNil h0 rfl|contradiction
 have c1':chkL [(0,a),(0,b)]=0:=Classical.not_not.1 c1
 rw[c1'] at hck
 have hcl:(cat [(s,a),(s',b)])=a++b:=by simp[cat]
 by_cases c2:400<a.length+b.length
 ·have e:joinF a b=([],4):=by unfold joinF;rw[if_neg c1,if_pos c2]
  rw[e]
  repeat' (first|(simp (disch:=first|omega|assumption|exact bd (by with_unfolding_all rfl)|exact Or.inl rfl|exact Or.inl trivial|exact okL_map _ (fun _=>rfl) _|(simp only[VVlen]<;>omega)|fail) only[VV0,VV1,VV2,VV3,VV4,VV5,VV6,VV7,VV8,VV9,mkFnV,vargs,slotsL,opdsA,Nat.reduceEqDiff,Nat.reduceLT,Nat.reduceAdd,Nat.reduceBEq,Int.reduceAdd,Int.reduceSub,Int.reduceLT,Int.reduceLE,Int.reduceEq,Int.reduceNeg,↓reduceIte,reduceCtorEq,scL,scD,expand,List.replicate,c7,row2V_sl])|apply gC_drawW|((first|apply gI_dec|apply gG_dec|apply gPG_dec|apply gI_var|apply gG_var|apply gPG_var)<;>intro _))
  refine callV_flat (by rw[hC];exact hck.flat rfl rfl) ?_
  repeat' (first|(simp (disch:=first|omega|assumption|exact bd (by with_unfolding_all rfl)|exact Or.inl rfl|exact Or.inl trivial|exact okL_map _ (fun _=>rfl) _|(simp only[VVlen]<;>omega)|fail) only[VV0,VV1,VV2,VV3,VV4,VV5,VV6,VV7,VV8,VV9,mkFnV,vargs,slotsL,opdsA,Nat.reduceEqDiff,Nat.reduceLT,Nat.reduceAdd,Nat.reduceBEq,Int.reduceAdd,Int.reduceSub,Int.reduceLT,Int.reduceLE,Int.reduceEq,Int.reduceNeg,↓reduceIte,reduceCtorEq,scL,scD,expand,List.replicate])|apply gC_drawW|((first|apply gI_dec|apply gG_dec|apply gPG_dec|apply gI_var|apply gG_var|apply gPG_var)<;>intro _))
  exact weak_finNil h0 rfl
 have e:joinF a b=(a++b,0):=by unfold joinF;rw[if_neg c1,if_neg c2]
 rw[e]
 have hcc:=concat_p w n [(s,a),(s',b)] (by simp) (by simp[hs,hs']) (by rw[hcl,List.length_append];omega)
 rw[hcl] at hcc
 repeat' (first|(simp (disch:=first|omega|assumption|exact bd (by with_unfolding_all rfl)|exact Or.inl rfl|exact Or.inl trivial|exact okL_map _ (fun _=>rfl) _|(simp only[VVlen]<;>omega)|fail) only[VV0,VV1,VV2,VV3,VV4,VV5,VV6,VV7,VV8,VV9,mkFnV,vargs,slotsL,opdsA,Nat.reduceEqDiff,Nat.reduceLT,Nat.reduceAdd,Nat.reduceBEq,Int.reduceAdd,Int.reduceSub,Int.reduceLT,Int.reduceLE,Int.reduceEq,Int.reduceNeg,↓reduceIte,reduceCtorEq,scL,scD,expand,List.replicate,c7,row2V_sl])|apply gC_drawW|((first|apply gI_dec|apply gG_dec|apply gPG_dec|apply gI_var|apply gG_var|apply gPG_var)<;>intro _))
 refine callV_flat (by rw[hC];exact hck.flat rfl rfl) ?_
 repeat' (first|(simp (disch:=first|omega|assumption|exact bd (by with_unfolding_all rfl)|exact Or.inl rfl|exact Or.inl trivial|exact okL_map _ (fun _=>rfl) _|(simp only[VVlen]<;>omega)|fail) only[VV0,VV1,VV2,VV3,VV4,VV5,VV6,VV7,VV8,VV9,mkFnV,vargs,slotsL,opdsA,Nat.reduceEqDiff,Nat.reduceLT,Nat.reduceAdd,Nat.reduceBEq,Int.reduceAdd,Int.reduceSub,Int.reduceLT,Int.reduceLE,Int.reduceEq,Int.reduceNeg,↓reduceIte,reduceCtorEq,scL,scD,expand,List.replicate,row2V_sl])|apply gC_drawW|((first|apply gI_dec|apply gG_dec|apply gPG_dec|apply gI_var|apply gG_var|apply gPG_var)<;>intro _))
 refine callV_of (by rw[hC];exact hcc) rfl rfl rfl ?_
 repeat' (first|(simp (disch:=first|omega|assumption|exact bd (by with_unfolding_all rfl)|exact Or.inl rfl|exact Or.inl trivial|exact okL_map _ (fun _=>rfl) _|(simp only[VVlen]<;>omega)|fail) only[VV0,VV1,VV2,VV3,VV4,VV5,VV6,VV7,VV8,VV9,mkFnV,vargs,slotsL,opdsA,Nat.reduceEqDiff,Nat.reduceLT,Nat.reduceAdd,Nat.reduceBEq,Int.reduceAdd,Int.reduceSub,Int.reduceLT,Int.reduceLE,Int.reduceEq,Int.reduceNeg,↓reduceIte,reduceCtorEq,scL,scD,expand,List.replicate,vsh,shH,shO,fzSL,fzS])|apply gC_drawW|((first|apply gI_dec|apply gG_dec|apply gPG_dec|apply gI_var|apply gG_var|apply gPG_var)<;>intro _))
 exact weak_finH (o:=2) (l:=a++b) (t:=3) (z:=false) rfl h0 rfl
theorem rev_ne (s:Nat) (hs:s ≠ 1) (a:List Int) (ha:a.length≤5000) (hne:a ≠ []):VSpec (EN w (n+2)) 8 [.sl s a.length (a.map iD)] (finV (reverseF a)) ⟨[],0,0⟩:=by
 refine vspec_g rfl rfl (fun _ _=>rfl) (Nat.le_of_ble_eq_true rfl) (oldVals w) retOK_fin rfl fun C hC h0=>?_
 have o1:okD (.sl s a.length (a.map iD))=true:=okD_ne hs
 have hal:0<a.length:=List.length_pos_iff.2 hne
 have hck:=check_p w n [(s,a)] (by simp) (fun k hk=>by
  rcases k with _|k
  ·show a.length≤_;omega
  ·simp at hk)
 rw[chkL_one] at hck
 by_cases c1:chk a ≠ 0
 ·have e:reverseF a=([],chk a):=if_pos c1
  rw[e]
  generalize chk a=x at c1 hck
  repeat' (first|(simp (disch:=first|omega|assumption|exact bd (by with_unfolding_all rfl)|exact Or.inl rfl|exact Or.inl trivial|exact okL_map _ (fun _=>rfl) _|(simp only[VVlen]<;>omega)|fail) only[VV0,VV1,VV2,VV3,VV4,VV5,VV6,VV7,VV8,VV9,mkFnV,vargs,slotsL,opdsA,Nat.reduceEqDiff,Nat.reduceLT,Nat.reduceAdd,Nat.reduceBEq,Int.reduceAdd,Int.reduceSub,Int.reduceLT,Int.reduceLE,Int.reduceEq,Int.reduceNeg,↓reduceIte,reduceCtorEq,scL,scD,expand,List.replicate,c8])|apply gC_drawW|((first|apply gI_dec|apply gG_dec|apply gPG_dec|apply gI_var|apply gG_var|apply gPG_var)<;>intro _))
  refine callV_flat (by rw[hC];exact hck.flat rfl rfl) ?_
  repeat' (first|(simp (disch:=first|omega|assumption|exact bd (by with_unfolding_all rfl)|exact Or.inl rfl|exact Or.inl trivial|exact okL_map _ (fun _=>rfl) _|(simp only[VVlen]<;>omega)|fail) only[VV0,VV1,VV2,VV3,VV4,VV5,VV6,VV7,VV8,VV9,mkFnV,vargs,slotsL,opdsA,Nat.reduceEqDiff,Nat.reduceLT,Nat.reduceAdd,Nat.reduceBEq,Int.reduceAdd,Int.reduceSub,Int.reduceLT,Int.reduceLE,Int.reduceEq,Int.reduceNeg,↓reduceIte,reduceCtorEq,scL,scD,expand,List.replicate])|apply gC_drawW|((first|apply gI_dec|apply gG_dec|apply gPG_dec|apply gI_var|apply gG_var|apply gPG_var)<;>intro _))
  all_goals first|exact weak_finNil h0 rfl|contradiction
 have c1':chk a=0:=Classical.not_not.1 c1
 rw[c1'] at hck
 have e:reverseF a=(a.reverse,0):=if_neg c1
 rw[e]
 repeat' (first|(simp (disch:=first|omega|assumption|exact bd (by with_unfolding_all rfl)|exact Or.inl rfl|exact Or.inl trivial|exact okL_map _ (fun _=>rfl) _|(simp only[VVlen]<;>omega)|fail) only[VV0,VV1,VV2,VV3,VV4,VV5,VV6,VV7,VV8,VV9,mkFnV,vargs,slotsL,opdsA,Nat.reduceEqDiff,Nat.reduceLT,Nat.reduceAdd,Nat.reduceBEq,Int.reduceAdd,Int.reduceSub,Int.reduceLT,Int.reduceLE,Int.reduceEq,Int.reduceNeg,↓reduceIte,reduceCtorEq,scL,scD,expand,List.replicate,c8])|apply gC_drawW|((first|apply gI_dec|apply gG_dec|apply gPG_dec|apply gI_var|apply gG_var|apply gPG_var)<;>intro _))
 refine callV_flat (by rw[hC];exact hck.flat rfl rfl) ?_
 repeat' (first|(simp (disch:=first|omega|assumption|exact bd (by with_unfolding_all rfl)|exact Or.inl rfl|exact Or.inl trivial|exact okL_map _ (fun _=>rfl) _|(simp only[VVlen]<;>omega)|fail) only[VV0,VV1,VV2,VV3,VV4,VV5,VV6,VV7,VV8,VV9,mkFnV,vargs,slotsL,opdsA,Nat.reduceEqDiff,Nat.reduceLT,Nat.reduceAdd,Nat.reduceBEq,Int.reduceAdd,Int.reduceSub,Int.reduceLT,Int.reduceLE,Int.reduceEq,Int.reduceNeg,↓reduceIte,reduceCtorEq,scL,scD,expand,List.replicate])|apply gC_drawW|((first|apply gI_dec|apply gG_dec|apply gPG_dec|apply gI_var|apply gG_var|apply gPG_var)<;>intro _))
 refine callV_of (by rw[hC];exact clone_p w n s a (by omega) hal) rfl rfl rfl ?_
 repeat' (first|(simp (disch:=first|omega|assumption|exact bd (by with_unfolding_all rfl)|exact Or.inl rfl|exact Or.inl trivial|exact okL_map _ (fun _=>rfl) _|(simp only[VVlen]<;>omega)|fail) only[VV0,VV1,VV2,VV3,VV4,VV5,VV6,VV7,VV8,VV9,mkFnV,vargs,slotsL,opdsA,Nat.reduceEqDiff,Nat.reduceLT,Nat.reduceAdd,Nat.reduceBEq,Int.reduceAdd,Int.reduceSub,Int.reduceLT,Int.reduceLE,Int.reduceEq,Int.reduceNeg,↓reduceIte,reduceCtorEq,scL,scD,expand,List.replicate,vsh,shH,shO,fzSL,fzS])|apply gC_drawW|((first|apply gI_dec|apply gG_dec|apply gPG_dec|apply gI_var|apply gG_var|apply gPG_var)<;>intro _))
 refine reverse_w w n hC 1 3 2 a (by omega) rfl (Nat.zero_le _) ?_
 repeat' (first|(simp (disch:=first|omega|assumption|exact bd (by with_unfolding_all rfl)|exact Or.inl rfl|exact Or.inl trivial|exact okL_map _ (fun _=>rfl) _|(simp only[VVlen]<;>omega)|fail) only[VV0,VV1,VV2,VV3,VV4,VV5,VV6,VV7,VV8,VV9,mkFnV,vargs,slotsL,opdsA,Nat.reduceEqDiff,Nat.reduceLT,Nat.reduceAdd,Nat.reduceBEq,Int.reduceAdd,Int.reduceSub,Int.reduceLT,Int.reduceLE,Int.reduceEq,Int.reduceNeg,↓reduceIte,reduceCtorEq,scL,scD,expand,List.replicate])|apply gC_drawW|((first|apply gI_dec|apply gG_dec|apply gPG_dec|apply gI_var|apply gG_var|apply gPG_var)<;>intro _))
 have:=weak_finH (C:=C) (o:=1) (l:=a.reverse) (t:=3) (z:=false) (x:= .int .i64 0) (st:=⟨[(1,.gro 3 1 false (a.reverse.map iD)),(0,.row 22 1 false false [.sl s a.length (a.map iD)])],2,0⟩) rfl h0 rfl
 rw[List.length_reverse] at this
 simp only[finV,List.length_reverse]
 exact this
end
end Go.Proofs.YtkjkiodoighgnaaGreatDoor
namespace Go.Proofs.YtkjkiodoighgnaaGreatDoor
open Go Go.Itp
set_option maxRecDepth 100000
set_option maxHeartbeats 4000000
set_option linter.unusedSimpArgs false
set_option linter.unusedVariables false
theorem vcons {x:V} {r r':List V} (hr:∀ (w:VW) (vs:List Value),VRepL w r vs→VRepL w r' vs):∀ (w:VW) (vs:List Value),VRepL w (x::r) vs→VRepL w (x::r') vs:=fun w vs h=>by
 simp only[VRepL] at h ⊢
 obtain ⟨v,vs',rfl,h1,h2⟩:=h
 exact ⟨v,vs',rfl,h1,hr w vs' h2⟩
theorem vnil:∀ (w:VW) (vs:List Value),VRepL w [] vs→VRepL w [] vs:=fun _ _ h=>h
theorem chk_rep (m:Nat):chk (List.replicate m 0)=if 400<m then 4 else 0:=by
 unfold chk
 rw[List.length_replicate,if_pos (c:=(List.replicate m 0).all col=true) (by rw[List.all_eq_true];intro x hx;rw[List.eq_of_mem_replicate hx];decide)]
theorem mkM (nx t m:Nat) {M:List Int} (h:M=List.replicate m 0) (hm:m≤1000):mkSliceV nx t 1 8 [.int .i64 0] (.sc (.int .i64 (m:Int))) (.sc (.int .i64 (m:Int)))=some (.ref nx 0 M.length M.length,some (.row t 1 false false (M.map iD)),[]):=by
 rw[mkSliceV_one _ _ _ _ rfl _ _ _ _ (by omega) (by omega) (by omega) (by omega),Int.toNat_natCast,h,List.length_replicate,List.map_replicate]
 rfl
theorem mk400 (nx t:Nat) {M:List Int} (h:M=List.replicate 400 0):mkSliceV nx t 1 8 [.int .i64 0] (.sc (.int .i64 400)) (.sc (.int .i64 400))=some (.ref nx 0 M.length M.length,some (.row t 1 false false (M.map iD)),[]):=mkM nx t 400 h (by decide)
theorem mk401 (nx t:Nat) {M:List Int} (h:M=List.replicate 401 0):mkSliceV nx t 1 8 [.int .i64 0] (.sc (.int .i64 401)) (.sc (.int .i64 401))=some (.ref nx 0 M.length M.length,some (.row t 1 false false (M.map iD)),[]):=mkM nx t 401 h (by decide)
theorem snapL_2 {H:VHp} {v v' u u':V} (h:snapV H v=some v') (h':snapV H u=some u'):snapL H [v,u]=some [v',u']:=by simp only[snapL,h,h',Option.bind_some,Option.map_some]
theorem snapL_one {H:VHp} {v v':V} (h:snapV H v=some v'):snapL H [v]=some [v']:=by simp only[snapL,h,Option.bind_some,Option.map_some]
theorem numA_400:pparseF [52,48,48,32,49]=([399,0],0):=by rw[pparseK_eq];decide+kernel
theorem rw2 (nx t:Nat) (x0 x1:Int):mkRowV nx t 1 2 [.int .i64 0] [(0,1,.sc (.int .i64 x0)),(1,1,.sc (.int .i64 x1))]=some (.ref nx 0 2 2,some (.row t 1 false false ([x0,x1].map iD)),[]):=(rfl)
theorem rw5 (nx t:Nat) (x0 x1 x2 x3 x4:Int):mkRowV nx t 1 5 [.int .i64 0] [(0,1,.sc (.int .i64 x0)),(1,1,.sc (.int .i64 x1)),(2,1,.sc (.int .i64 x2)),(3,1,.sc (.int .i64 x3)),(4,1,.sc (.int .i64 x4))]=some (.ref nx 0 5 5,some (.row t 1 false false ([x0,x1,x2,x3,x4].map iD)),[]):=(rfl)
theorem rw6 (nx t:Nat) (x0 x1 x2 x3 x4 x5:Int):mkRowV nx t 1 6 [.int .i64 0] [(0,1,.sc (.int .i64 x0)),(1,1,.sc (.int .i64 x1)),(2,1,.sc (.int .i64 x2)),(3,1,.sc (.int .i64 x3)),(4,1,.sc (.int .i64 x4)),(5,1,.sc (.int .i64 x5))]=some (.ref nx 0 6 6,some (.row t 1 false false ([x0,x1,x2,x3,x4,x5].map iD)),[]):=(rfl)
theorem nm0:straightF (3) (5)=([0,1,2,0,1],0):=by decide+kernel
theorem nm1:pointedF (1) (3)=([0,0,0],0):=by decide+kernel
theorem nm2:pointedF (2) (5)=([0,1,0,1,0],0):=by decide+kernel
theorem nm3:joinF [1] [2,3]=([1,2,3],0):=by decide+kernel
theorem nm4:tileF [1,2] (3)=([1,2,1,2,1,2],0):=by decide+kernel
theorem nm5:reverseF [1,2,3]=([3,2,1],0):=by decide+kernel
theorem nm6:matchF [] []=([],0):=by decide+kernel
theorem us:nU [5,5,0]=2:=by decide+kernel
theorem uc:chk [5,5,0]=0:=by decide+kernel
theorem nm8:tileF [] 9223372036854775807=([],0):=by decide+kernel
theorem nm9:straightF (0) (1)=([],2):=by decide+kernel
theorem nm10:pointedF (401) (1)=([],2):=by decide+kernel
theorem nm11:straightF (1) (401)=([],2):=by decide+kernel
theorem nm12:tileF [1,2] (201)=([],4):=by decide+kernel
theorem nm13:tileF [1] (-1)=([],2):=by decide+kernel
theorem nm14:matchF [1] [1,2]=([],2):=by decide+kernel
theorem nm15:matchF [1,1] [1,2]=([],6):=by decide+kernel
theorem nm16:matchF [1,2] [1,1]=([],6):=by decide+kernel
theorem nm17:chk [400]=8:=by decide+kernel
theorem nm18:chk [-1]=8:=by decide+kernel
theorem nm19:chk []=0:=by decide+kernel
theorem rf0:pparseF [32]=([],12):=by rw[pparseK_eq];decide+kernel
theorem rf1:pparseF [49,32]=([],12):=by rw[pparseK_eq];decide+kernel
theorem rf2:pparseF [43,49]=([],12):=by rw[pparseK_eq];decide+kernel
theorem rf3:pparseF [45,49]=([],12):=by rw[pparseK_eq];decide+kernel
theorem rf4:pparseF [49,44,50]=([],12):=by rw[pparseK_eq];decide+kernel
theorem rf5:pparseF [57,57,57,57,57,57,57,57,57,57,57,57,57,57,57,57,57,57,57,57]=([],12):=by rw[pparseK_eq];decide+kernel
theorem e4f (M:List Int) (h:M=List.replicate 400 0):joinF M [1]=([],4):=by
 have hc:chk M=0:=by rw[h,chk_rep,if_neg (by decide)]
 have h1:chk [1]=0:=by decide
 unfold joinF
 rw[if_neg (by simp[chkL,hc,h1]),if_pos (by rw[h,List.length_replicate];decide)]
theorem k1f (M:List Int) (h:M=List.replicate 401 0):chk M=4:=by rw[h,chk_rep,if_pos (by decide)]
theorem names_g (w:World) (hes:(errO Tryz.prog w "strconv.ErrSyntax").isSome=true) (her:(errO Tryz.prog w "strconv.ErrRange").isSome=true) {C:Ctx} (hC:C.E=EN w 10) (h0:C.w0.nx=0):
  gC C c4.code [] (vargs 0 []) ⟨[],0,0⟩ (RetV C c4.res (.sc (.bool true)) ⟨[],0,0⟩):=by
 have f2:∀ (H:VHp),frozA [] H=H:=frozA_none
 obtain ⟨M4,hM4⟩:∃ M:List Int,M=List.replicate 400 0:=⟨_,rfl⟩
 obtain ⟨M5,hM5⟩:∃ M:List Int,M=List.replicate 401 0:=⟨_,rfl⟩
 have s1:=straight_p w 8 (3) (5)
 rw[nm0] at s1
 have s2:=pointed_p w 8 (1) (3)
 rw[nm1] at s2
 have s3:=pointed_p w 8 (2) (5)
 rw[nm2] at s3
 have s4:=jn_p w 7 0 0 [1] [2,3] (by decide) (by decide) (by decide) (by decide)
 rw[nm3] at s4
 have s5:=ptile_p w 6 0 [1,2] (3) (by decide) (by decide)
 rw[nm4] at s5
 have s6:=rev_ne w 8 0 (by decide) [1,2,3] (by decide) (by decide)
 rw[nm5] at s6
 have s7a:=match_p w 8 3 3 (by decide) (by decide) [] [] (by decide) (by decide)
 rw[nm6] at s7a
 have s7:=(VSpec.arg s7a (nil_arg (nil_arg vnil)):VSpec _ _ [.sc (.slice none 0 0),.sc (.slice none 0 0)] _ _)
 have s8:=parse_p w 2 [52,48,48,32,49] (by decide) hes her
 rw[numA_400] at s8
 have s9:=used_p w 4 0 (by decide) [5,5,0] (by decide)
 rw[used_eq uc,us] at s9
 have s10a:=ptile_p w 6 3 [] 9223372036854775807 (by decide) (by decide)
 rw[nm8] at s10a
 have s10:=(VSpec.arg s10a (nil_arg (vcons vnil)):VSpec _ _ [.sc (.slice none 0 0),.sc (.int .i64 9223372036854775807)] _ _)
 have i1:=is_p w 8 3 0 [0,1,2,0,1] [0,1,2,0,1] 0 (by decide) (by decide)
 rw[decide_eq_true rfl,decide_eq_true rfl] at i1
 have i2:=is_p w 8 3 0 [0,0,0] [0,0,0] 0 (by decide) (by decide)
 rw[decide_eq_true rfl,decide_eq_true rfl] at i2
 have i3:=is_p w 8 3 0 [0,1,0,1,0] [0,1,0,1,0] 0 (by decide) (by decide)
 rw[decide_eq_true rfl,decide_eq_true rfl] at i3
 have i4:=is_p w 8 3 0 [1,2,3] [1,2,3] 0 (by decide) (by decide)
 rw[decide_eq_true rfl,decide_eq_true rfl] at i4
 have i5:=is_p w 8 3 0 [1,2,1,2,1,2] [1,2,1,2,1,2] 0 (by decide) (by decide)
 rw[decide_eq_true rfl,decide_eq_true rfl] at i5
 have i6:=is_p w 8 3 0 [3,2,1] [3,2,1] 0 (by decide) (by decide)
 rw[decide_eq_true rfl,decide_eq_true rfl] at i6
 have i7a:=is_p w 8 3 3 [] [] 0 (by decide) (by decide)
 rw[decide_eq_true rfl,decide_eq_true rfl] at i7a
 have i7:=(VSpec.arg i7a (vcons (vcons (nil_arg vnil))):VSpec _ _ [.sl 3 0 [],.sc (.int .i64 0),.sc (.slice none 0 0)] _ _)
 have i8:=is_p w 8 3 0 [399,0] [399,0] 0 (by decide) (by decide)
 rw[decide_eq_true rfl,decide_eq_true rfl] at i8
 have i9a:=is_p w 8 3 3 [] [] 0 (by decide) (by decide)
 rw[decide_eq_true rfl,decide_eq_true rfl] at i9a
 have i9:=(VSpec.arg i9a (vcons (vcons (nil_arg vnil))):VSpec _ _ [.sl 3 0 [],.sc (.int .i64 0),.sc (.slice none 0 0)] _ _)
 have e1:=straight_p w 8 (0) (1)
 rw[nm9] at e1
 have e2:=pointed_p w 8 (401) (1)
 rw[nm10] at e2
 have e3:=straight_p w 8 (1) (401)
 rw[nm11] at e3
 have e4:=jn_p w 7 0 0 M4 [1] (by decide) (by decide) (by rw[hM4];simp) (by decide)
 rw[e4f M4 hM4] at e4
 have e5:=ptile_p w 6 0 [1,2] (201) (by decide) (by decide)
 rw[nm12] at e5
 have e6:=ptile_p w 6 0 [1] (-1) (by decide) (by decide)
 rw[nm13] at e6
 have e7:=match_p w 8 0 0 (by decide) (by decide) [1] [1,2] (by decide) (by decide)
 rw[nm14] at e7
 have e8:=match_p w 8 0 0 (by decide) (by decide) [1,1] [1,2] (by decide) (by decide)
 rw[nm15] at e8
 have e9:=match_p w 8 0 0 (by decide) (by decide) [1,2] [1,1] (by decide) (by decide)
 rw[nm16] at e9
 have k1:=pcheck_p w 8 0 M5 (by decide) (by rw[hM5];simp)
 rw[k1f M5 hM5] at k1
 have k2:=pcheck_p w 8 0 [400] (by decide) (by decide)
 rw[nm17] at k2
 have k3:=pcheck_p w 8 0 [-1] (by decide) (by decide)
 rw[nm18] at k3
 have k4a:=pcheck_p w 8 3 [] (by decide) (by decide)
 rw[nm19] at k4a
 have k4:=(VSpec.arg k4a (nil_arg vnil):VSpec _ _ [.sc (.slice none 0 0)] _ _)
 have r0:=refused_p w 1 [32] (by decide) hes her rf0
 have r1:=refused_p w 1 [49,32] (by decide) hes her rf1
 have r2:=refused_p w 1 [43,49] (by decide) hes her rf2
 have r3:=refused_p w 1 [45,49] (by decide) hes her rf3
 have r4:=refused_p w 1 [49,44,50] (by decide) hes her rf4
 have r5:=refused_p w 1 [57,57,57,57,57,57,57,57,57,57,57,57,57,57,57,57,57,57,57,57] (by decide) hes her rf5
 have al:=alive_p w 0 hes her
 repeat' (first|(simp (disch:=first|omega|assumption|exact bd (by with_unfolding_all rfl)|exact Or.inl rfl|exact Or.inl trivial|exact okL_map _ (fun _=>rfl) _|(simp only[VVlen]<;>omega)|fail) only[VV0,VV1,VV2,VV3,VV4,VV5,VV6,VV7,VV8,VV9,mkFnV,vargs,slotsL,opdsA,Nat.reduceEqDiff,Nat.reduceLT,Nat.reduceAdd,Nat.reduceBEq,Int.reduceAdd,Int.reduceSub,Int.reduceLT,Int.reduceLE,Int.reduceEq,Int.reduceNeg,↓reduceIte,reduceCtorEq,scL,scD,expand,List.replicate,c4,rw2,rw3,rw4,rw5,rw6,rw7,rw8,↓mk400 _ _ hM4,↓mk401 _ _ hM5])|apply gC_drawW|((first|apply gI_dec|apply gG_dec|apply gPG_dec|apply gI_var|apply gG_var|apply gPG_var)<;>intro _))
 refine callV_of (by rw[hC];exact s1) rfl rfl rfl ?_
 repeat' (first|(simp (disch:=first|omega|assumption|exact bd (by with_unfolding_all rfl)|exact Or.inl rfl|exact Or.inl trivial|exact okL_map _ (fun _=>rfl) _|(simp only[VVlen]<;>omega)|fail) only[VV0,VV1,VV2,VV3,VV4,VV5,VV6,VV7,VV8,VV9,mkFnV,vargs,slotsL,opdsA,Nat.reduceEqDiff,Nat.reduceLT,Nat.reduceAdd,Nat.reduceBEq,Int.reduceAdd,Int.reduceSub,Int.reduceLT,Int.reduceLE,Int.reduceEq,Int.reduceNeg,↓reduceIte,reduceCtorEq,scL,scD,expand,List.replicate,vsh,vshL,shH,shO,fzSL,fzS,f2,rw2,rw3,rw4,rw5,rw6,rw7,rw8,↓mk400 _ _ hM4,↓mk401 _ _ hM5])|apply gC_drawW|((first|apply gI_dec|apply gG_dec|apply gPG_dec|apply gI_var|apply gG_var|apply gPG_var)<;>intro _))
 refine callV_of (by rw[hC];exact s2) rfl rfl rfl ?_
 repeat' (first|(simp (disch:=first|omega|assumption|exact bd (by with_unfolding_all rfl)|exact Or.inl rfl|exact Or.inl trivial|exact okL_map _ (fun _=>rfl) _|(simp only[VVlen]<;>omega)|fail) only[VV0,VV1,VV2,VV3,VV4,VV5,VV6,VV7,VV8,VV9,mkFnV,vargs,slotsL,opdsA,Nat.reduceEqDiff,Nat.reduceLT,Nat.reduceAdd,Nat.reduceBEq,Int.reduceAdd,Int.reduceSub,Int.reduceLT,Int.reduceLE,Int.reduceEq,Int.reduceNeg,↓reduceIte,reduceCtorEq,scL,scD,expand,List.replicate,vsh,vshL,shH,shO,fzSL,fzS,f2,rw2,rw3,rw4,rw5,rw6,rw7,rw8,↓mk400 _ _ hM4,↓mk401 _ _ hM5])|apply gC_drawW|((first|apply gI_dec|apply gG_dec|apply gPG_dec|apply gI_var|apply gG_var|apply gPG_var)<;>intro _))
 refine callV_of (by rw[hC];exact s3) rfl rfl rfl ?_
 repeat' (first|(simp (disch:=first|omega|assumption|exact bd (by with_unfolding_all rfl)|exact Or.inl rfl|exact Or.inl trivial|exact okL_map _ (fun _=>rfl) _|(simp only[VVlen]<;>omega)|fail) only[VV0,VV1,VV2,VV3,VV4,VV5,VV6,VV7,VV8,VV9,mkFnV,vargs,slotsL,opdsA,Nat.reduceEqDiff,Nat.reduceLT,Nat.reduceAdd,Nat.reduceBEq,Int.reduceAdd,Int.reduceSub,Int.reduceLT,Int.reduceLE,Int.reduceEq,Int.reduceNeg,↓reduceIte,reduceCtorEq,scL,scD,expand,List.replicate,vsh,vshL,shH,shO,fzSL,fzS,f2,rw2,rw3,rw4,rw5,rw6,rw7,rw8,↓mk400 _ _ hM4,↓mk401 _ _ hM5])|apply gC_drawW|((first|apply gI_dec|apply gG_dec|apply gPG_dec|apply gI_var|apply gG_var|apply gPG_var)<;>intro _))
 refine callV_of (by rw[hC];exact s4) rfl rfl rfl ?_
 repeat' (first|(simp (disch:=first|omega|assumption|exact bd (by with_unfolding_all rfl)|exact Or.inl rfl|exact Or.inl trivial|exact okL_map _ (fun _=>rfl) _|(simp only[VVlen]<;>omega)|fail) only[VV0,VV1,VV2,VV3,VV4,VV5,VV6,VV7,VV8,VV9,mkFnV,vargs,slotsL,opdsA,Nat.reduceEqDiff,Nat.reduceLT,Nat.reduceAdd,Nat.reduceBEq,Int.reduceAdd,Int.reduceSub,Int.reduceLT,Int.reduceLE,Int.reduceEq,Int.reduceNeg,↓reduceIte,reduceCtorEq,scL,scD,expand,List.replicate,vsh,vshL,shH,shO,fzSL,fzS,f2,rw2,rw3,rw4,rw5,rw6,rw7,rw8,↓mk400 _ _ hM4,↓mk401 _ _ hM5])|apply gC_drawW|((first|apply gI_dec|apply gG_dec|apply gPG_dec|apply gI_var|apply gG_var|apply gPG_var)<;>intro _))
 refine callV_of (by rw[hC];exact s5) rfl rfl rfl ?_
 repeat' (first|(simp (disch:=first|omega|assumption|exact bd (by with_unfolding_all rfl)|exact Or.inl rfl|exact Or.inl trivial|exact okL_map _ (fun _=>rfl) _|(simp only[VVlen]<;>omega)|fail) only[VV0,VV1,VV2,VV3,VV4,VV5,VV6,VV7,VV8,VV9,mkFnV,vargs,slotsL,opdsA,Nat.reduceEqDiff,Nat.reduceLT,Nat.reduceAdd,Nat.reduceBEq,Int.reduceAdd,Int.reduceSub,Int.reduceLT,Int.reduceLE,Int.reduceEq,Int.reduceNeg,↓reduceIte,reduceCtorEq,scL,scD,expand,List.replicate,vsh,vshL,shH,shO,fzSL,fzS,f2,rw2,rw3,rw4,rw5,rw6,rw7,rw8,↓mk400 _ _ hM4,↓mk401 _ _ hM5])|apply gC_drawW|((first|apply gI_dec|apply gG_dec|apply gPG_dec|apply gI_var|apply gG_var|apply gPG_var)<;>intro _))
 refine callV_of (by rw[hC];exact s6) rfl rfl rfl ?_
 repeat' (first|(simp (disch:=first|omega|assumption|exact bd (by with_unfolding_all rfl)|exact Or.inl rfl|exact Or.inl trivial|exact okL_map _ (fun _=>rfl) _|(simp only[VVlen]<;>omega)|fail) only[VV0,VV1,VV2,VV3,VV4,VV5,VV6,VV7,VV8,VV9,mkFnV,vargs,slotsL,opdsA,Nat.reduceEqDiff,Nat.reduceLT,Nat.reduceAdd,Nat.reduceBEq,Int.reduceAdd,Int.reduceSub,Int.reduceLT,Int.reduceLE,Int.reduceEq,Int.reduceNeg,↓reduceIte,reduceCtorEq,scL,scD,expand,List.replicate,vsh,vshL,shH,shO,fzSL,fzS,f2,rw2,rw3,rw4,rw5,rw6,rw7,rw8,↓mk400 _ _ hM4,↓mk401 _ _ hM5])|apply gC_drawW|((first|apply gI_dec|apply gG_dec|apply gPG_dec|apply gI_var|apply gG_var|apply gPG_var)<;>intro _))
 refine callV_of (by rw[hC];exact s7) rfl rfl rfl ?_
 repeat' (first|(simp (disch:=first|omega|assumption|exact bd (by with_unfolding_all rfl)|exact Or.inl rfl|exact Or.inl trivial|exact okL_map _ (fun _=>rfl) _|(simp only[VVlen]<;>omega)|fail) only[VV0,VV1,VV2,VV3,VV4,VV5,VV6,VV7,VV8,VV9,mkFnV,vargs,slotsL,opdsA,Nat.reduceEqDiff,Nat.reduceLT,Nat.reduceAdd,Nat.reduceBEq,Int.reduceAdd,Int.reduceSub,Int.reduceLT,Int.reduceLE,Int.reduceEq,Int.reduceNeg,↓reduceIte,reduceCtorEq,scL,scD,expand,List.replicate,vsh,vshL,shH,shO,fzSL,fzS,f2,rw2,rw3,rw4,rw5,rw6,rw7,rw8,↓mk400 _ _ hM4,↓mk401 _ _ hM5])|apply gC_drawW|((first|apply gI_dec|apply gG_dec|apply gPG_dec|apply gI_var|apply gG_var|apply gPG_var)<;>intro _))
 refine callV_of (by rw[hC];exact s8) rfl rfl rfl ?_
 repeat' (first|(simp (disch:=first|omega|assumption|exact bd (by with_unfolding_all rfl)|exact Or.inl rfl|exact Or.inl trivial|exact okL_map _ (fun _=>rfl) _|(simp only[VVlen]<;>omega)|fail) only[VV0,VV1,VV2,VV3,VV4,VV5,VV6,VV7,VV8,VV9,mkFnV,vargs,slotsL,opdsA,Nat.reduceEqDiff,Nat.reduceLT,Nat.reduceAdd,Nat.reduceBEq,Int.reduceAdd,Int.reduceSub,Int.reduceLT,Int.reduceLE,Int.reduceEq,Int.reduceNeg,↓reduceIte,reduceCtorEq,scL,scD,expand,List.replicate,vsh,vshL,shH,shO,fzSL,fzS,f2,rw2,rw3,rw4,rw5,rw6,rw7,rw8,↓mk400 _ _ hM4,↓mk401 _ _ hM5])|apply gC_drawW|((first|apply gI_dec|apply gG_dec|apply gPG_dec|apply gI_var|apply gG_var|apply gPG_var)<;>intro _))
 refine callV_flat (by rw[hC];exact s9.flat rfl rfl) ?_
 repeat' (first|(simp (disch:=first|omega|assumption|exact bd (by with_unfolding_all rfl)|exact Or.inl rfl|exact Or.inl trivial|exact okL_map _ (fun _=>rfl) _|(simp only[VVlen]<;>omega)|fail) only[VV0,VV1,VV2,VV3,VV4,VV5,VV6,VV7,VV8,VV9,mkFnV,vargs,slotsL,opdsA,Nat.reduceEqDiff,Nat.reduceLT,Nat.reduceAdd,Nat.reduceBEq,Int.reduceAdd,Int.reduceSub,Int.reduceLT,Int.reduceLE,Int.reduceEq,Int.reduceNeg,↓reduceIte,reduceCtorEq,scL,scD,expand,List.replicate,f2,rw2,rw3,rw4,rw5,rw6,rw7,rw8,↓mk400 _ _ hM4,↓mk401 _ _ hM5])|apply gC_drawW|((first|apply gI_dec|apply gG_dec|apply gPG_dec|apply gI_var|apply gG_var|apply gPG_var)<;>intro _))
 refine callV_of (by rw[hC];exact s10) rfl rfl rfl ?_
 repeat' (first|(simp (disch:=first|omega|assumption|exact bd (by with_unfolding_all rfl)|exact Or.inl rfl|exact Or.inl trivial|exact okL_map _ (fun _=>rfl) _|(simp only[VVlen]<;>omega)|fail) only[VV0,VV1,VV2,VV3,VV4,VV5,VV6,VV7,VV8,VV9,mkFnV,vargs,slotsL,opdsA,Nat.reduceEqDiff,Nat.reduceLT,Nat.reduceAdd,Nat.reduceBEq,Int.reduceAdd,Int.reduceSub,Int.reduceLT,Int.reduceLE,Int.reduceEq,Int.reduceNeg,↓reduceIte,reduceCtorEq,scL,scD,expand,List.replicate,vsh,vshL,shH,shO,fzSL,fzS,f2,rw2,rw3,rw4,rw5,rw6,rw7,rw8,↓mk400 _ _ hM4,↓mk401 _ _ hM5])|apply gC_drawW|((first|apply gI_dec|apply gG_dec|apply gPG_dec|apply gI_var|apply gG_var|apply gPG_var)<;>intro _))
 refine callV_flat (by rw[hC];exact i1.flat rfl rfl) ?_
 repeat' (first|(simp (disch:=first|omega|assumption|exact bd (by with_unfolding_all rfl)|exact Or.inl rfl|exact Or.inl trivial|exact okL_map _ (fun _=>rfl) _|(simp only[VVlen]<;>omega)|fail) only[VV0,VV1,VV2,VV3,VV4,VV5,VV6,VV7,VV8,VV9,mkFnV,vargs,slotsL,opdsA,Nat.reduceEqDiff,Nat.reduceLT,Nat.reduceAdd,Nat.reduceBEq,Int.reduceAdd,Int.reduceSub,Int.reduceLT,Int.reduceLE,Int.reduceEq,Int.reduceNeg,↓reduceIte,reduceCtorEq,scL,scD,expand,List.replicate,f2,rw2,rw3,rw4,rw5,rw6,rw7,rw8,↓mk400 _ _ hM4,↓mk401 _ _ hM5])|apply gC_drawW|((first|apply gI_dec|apply gG_dec|apply gPG_dec|apply gI_var|apply gG_var|apply gPG_var)<;>intro _))
 refine callV_flat (by rw[hC];exact i2.flat rfl rfl) ?_
 repeat' (first|(simp (disch:=first|omega|assumption|exact bd (by with_unfolding_all rfl)|exact Or.inl rfl|exact Or.inl trivial|exact okL_map _ (fun _=>rfl) _|(simp only[VVlen]<;>omega)|fail) only[VV0,VV1,VV2,VV3,VV4,VV5,VV6,VV7,VV8,VV9,mkFnV,vargs,slotsL,opdsA,Nat.reduceEqDiff,Nat.reduceLT,Nat.reduceAdd,Nat.reduceBEq,Int.reduceAdd,Int.reduceSub,Int.reduceLT,Int.reduceLE,Int.reduceEq,Int.reduceNeg,↓reduceIte,reduceCtorEq,scL,scD,expand,List.replicate,f2,rw2,rw3,rw4,rw5,rw6,rw7,rw8,↓mk400 _ _ hM4,↓mk401 _ _ hM5])|apply gC_drawW|((first|apply gI_dec|apply gG_dec|apply gPG_dec|apply gI_var|apply gG_var|apply gPG_var)<;>intro _))
 refine callV_flat (by rw[hC];exact i3.flat rfl rfl) ?_
 repeat' (first|(simp (disch:=first|omega|assumption|exact bd (by with_unfolding_all rfl)|exact Or.inl rfl|exact Or.inl trivial|exact okL_map _ (fun _=>rfl) _|(simp only[VVlen]<;>omega)|fail) only[VV0,VV1,VV2,VV3,VV4,VV5,VV6,VV7,VV8,VV9,mkFnV,vargs,slotsL,opdsA,Nat.reduceEqDiff,Nat.reduceLT,Nat.reduceAdd,Nat.reduceBEq,Int.reduceAdd,Int.reduceSub,Int.reduceLT,Int.reduceLE,Int.reduceEq,Int.reduceNeg,↓reduceIte,reduceCtorEq,scL,scD,expand,List.replicate,f2,rw2,rw3,rw4,rw5,rw6,rw7,rw8,↓mk400 _ _ hM4,↓mk401 _ _ hM5])|apply gC_drawW|((first|apply gI_dec|apply gG_dec|apply gPG_dec|apply gI_var|apply gG_var|apply gPG_var)<;>intro _))
 refine callV_flat (by rw[hC];exact i4.flat rfl rfl) ?_
 repeat' (first|(simp (disch:=first|omega|assumption|exact bd (by with_unfolding_all rfl)|exact Or.inl rfl|exact Or.inl trivial|exact okL_map _ (fun _=>rfl) _|(simp only[VVlen]<;>omega)|fail) only[VV0,VV1,VV2,VV3,VV4,VV5,VV6,VV7,VV8,VV9,mkFnV,vargs,slotsL,opdsA,Nat.reduceEqDiff,Nat.reduceLT,Nat.reduceAdd,Nat.reduceBEq,Int.reduceAdd,Int.reduceSub,Int.reduceLT,Int.reduceLE,Int.reduceEq,Int.reduceNeg,↓reduceIte,reduceCtorEq,scL,scD,expand,List.replicate,f2,rw2,rw3,rw4,rw5,rw6,rw7,rw8,↓mk400 _ _ hM4,↓mk401 _ _ hM5])|apply gC_drawW|((first|apply gI_dec|apply gG_dec|apply gPG_dec|apply gI_var|apply gG_var|apply gPG_var)<;>intro _))
 refine callV_flat (by rw[hC];exact i5.flat rfl rfl) ?_
 repeat' (first|(simp (disch:=first|omega|assumption|exact bd (by with_unfolding_all rfl)|exact Or.inl rfl|exact Or.inl trivial|exact okL_map _ (fun _=>rfl) _|(simp only[VVlen]<;>omega)|fail) only[VV0,VV1,VV2,VV3,VV4,VV5,VV6,VV7,VV8,VV9,mkFnV,vargs,slotsL,opdsA,Nat.reduceEqDiff,Nat.reduceLT,Nat.reduceAdd,Nat.reduceBEq,Int.reduceAdd,Int.reduceSub,Int.reduceLT,Int.reduceLE,Int.reduceEq,Int.reduceNeg,↓reduceIte,reduceCtorEq,scL,scD,expand,List.replicate,f2,rw2,rw3,rw4,rw5,rw6,rw7,rw8,↓mk400 _ _ hM4,↓mk401 _ _ hM5])|apply gC_drawW|((first|apply gI_dec|apply gG_dec|apply gPG_dec|apply gI_var|apply gG_var|apply gPG_var)<;>intro _))
 refine callV_flat (by rw[hC];exact i6.flat rfl rfl) ?_
 repeat' (first|(simp (disch:=first|omega|assumption|exact bd (by with_unfolding_all rfl)|exact Or.inl rfl|exact Or.inl trivial|exact okL_map _ (fun _=>rfl) _|(simp only[VVlen]<;>omega)|fail) only[VV0,VV1,VV2,VV3,VV4,VV5,VV6,VV7,VV8,VV9,mkFnV,vargs,slotsL,opdsA,Nat.reduceEqDiff,Nat.reduceLT,Nat.reduceAdd,Nat.reduceBEq,Int.reduceAdd,Int.reduceSub,Int.reduceLT,Int.reduceLE,Int.reduceEq,Int.reduceNeg,↓reduceIte,reduceCtorEq,scL,scD,expand,List.replicate,f2,rw2,rw3,rw4,rw5,rw6,rw7,rw8,↓mk400 _ _ hM4,↓mk401 _ _ hM5])|apply gC_drawW|((first|apply gI_dec|apply gG_dec|apply gPG_dec|apply gI_var|apply gG_var|apply gPG_var)<;>intro _))
 refine callV_flat (by rw[hC];exact i7.flat rfl rfl) ?_
 repeat' (first|(simp (disch:=first|omega|assumption|exact bd (by with_unfolding_all rfl)|exact Or.inl rfl|exact Or.inl trivial|exact okL_map _ (fun _=>rfl) _|(simp only[VVlen]<;>omega)|fail) only[VV0,VV1,VV2,VV3,VV4,VV5,VV6,VV7,VV8,VV9,mkFnV,vargs,slotsL,opdsA,Nat.reduceEqDiff,Nat.reduceLT,Nat.reduceAdd,Nat.reduceBEq,Int.reduceAdd,Int.reduceSub,Int.reduceLT,Int.reduceLE,Int.reduceEq,Int.reduceNeg,↓reduceIte,reduceCtorEq,scL,scD,expand,List.replicate,f2,rw2,rw3,rw4,rw5,rw6,rw7,rw8,↓mk400 _ _ hM4,↓mk401 _ _ hM5])|apply gC_drawW|((first|apply gI_dec|apply gG_dec|apply gPG_dec|apply gI_var|apply gG_var|apply gPG_var)<;>intro _))
 refine callV_flat (by rw[hC];exact i8.flat rfl rfl) ?_
 repeat' (first|(simp (disch:=first|omega|assumption|exact bd (by with_unfolding_all rfl)|exact Or.inl rfl|exact Or.inl trivial|exact okL_map _ (fun _=>rfl) _|(simp only[VVlen]<;>omega)|fail) only[VV0,VV1,VV2,VV3,VV4,VV5,VV6,VV7,VV8,VV9,mkFnV,vargs,slotsL,opdsA,Nat.reduceEqDiff,Nat.reduceLT,Nat.reduceAdd,Nat.reduceBEq,Int.reduceAdd,Int.reduceSub,Int.reduceLT,Int.reduceLE,Int.reduceEq,Int.reduceNeg,↓reduceIte,reduceCtorEq,scL,scD,expand,List.replicate,f2,rw2,rw3,rw4,rw5,rw6,rw7,rw8,↓mk400 _ _ hM4,↓mk401 _ _ hM5])|apply gC_drawW|((first|apply gI_dec|apply gG_dec|apply gPG_dec|apply gI_var|apply gG_var|apply gPG_var)<;>intro _))
 refine callV_flat (by rw[hC];exact i9.flat rfl rfl) ?_
 repeat' (first|(simp (disch:=first|omega|assumption|exact bd (by with_unfolding_all rfl)|exact Or.inl rfl|exact Or.inl trivial|exact okL_map _ (fun _=>rfl) _|(simp only[VVlen]<;>omega)|fail) only[VV0,VV1,VV2,VV3,VV4,VV5,VV6,VV7,VV8,VV9,mkFnV,vargs,slotsL,opdsA,Nat.reduceEqDiff,Nat.reduceLT,Nat.reduceAdd,Nat.reduceBEq,Int.reduceAdd,Int.reduceSub,Int.reduceLT,Int.reduceLE,Int.reduceEq,Int.reduceNeg,↓reduceIte,reduceCtorEq,scL,scD,expand,List.replicate,f2,rw2,rw3,rw4,rw5,rw6,rw7,rw8,↓mk400 _ _ hM4,↓mk401 _ _ hM5])|apply gC_drawW|((first|apply gI_dec|apply gG_dec|apply gPG_dec|apply gI_var|apply gG_var|apply gPG_var)<;>intro _))
 refine callV_of (by rw[hC];exact e1) rfl rfl rfl ?_
 repeat' (first|(simp (disch:=first|omega|assumption|exact bd (by with_unfolding_all rfl)|exact Or.inl rfl|exact Or.inl trivial|exact okL_map _ (fun _=>rfl) _|(simp only[VVlen]<;>omega)|fail) only[VV0,VV1,VV2,VV3,VV4,VV5,VV6,VV7,VV8,VV9,mkFnV,vargs,slotsL,opdsA,Nat.reduceEqDiff,Nat.reduceLT,Nat.reduceAdd,Nat.reduceBEq,Int.reduceAdd,Int.reduceSub,Int.reduceLT,Int.reduceLE,Int.reduceEq,Int.reduceNeg,↓reduceIte,reduceCtorEq,scL,scD,expand,List.replicate,vsh,vshL,shH,shO,fzSL,fzS,f2,rw2,rw3,rw4,rw5,rw6,rw7,rw8,↓mk400 _ _ hM4,↓mk401 _ _ hM5])|apply gC_drawW|((first|apply gI_dec|apply gG_dec|apply gPG_dec|apply gI_var|apply gG_var|apply gPG_var)<;>intro _))
 refine callV_of (by rw[hC];exact e2) rfl rfl rfl ?_
 repeat' (first|(simp (disch:=first|omega|assumption|exact bd (by with_unfolding_all rfl)|exact Or.inl rfl|exact Or.inl trivial|exact okL_map _ (fun _=>rfl) _|(simp only[VVlen]<;>omega)|fail) only[VV0,VV1,VV2,VV3,VV4,VV5,VV6,VV7,VV8,VV9,mkFnV,vargs,slotsL,opdsA,Nat.reduceEqDiff,Nat.reduceLT,Nat.reduceAdd,Nat.reduceBEq,Int.reduceAdd,Int.reduceSub,Int.reduceLT,Int.reduceLE,Int.reduceEq,Int.reduceNeg,↓reduceIte,reduceCtorEq,scL,scD,expand,List.replicate,vsh,vshL,shH,shO,fzSL,fzS,f2,rw2,rw3,rw4,rw5,rw6,rw7,rw8,↓mk400 _ _ hM4,↓mk401 _ _ hM5])|apply gC_drawW|((first|apply gI_dec|apply gG_dec|apply gPG_dec|apply gI_var|apply gG_var|apply gPG_var)<;>intro _))
 refine callV_of (by rw[hC];exact e3) rfl rfl rfl ?_
 repeat' (first|(simp (disch:=first|omega|assumption|exact bd (by with_unfolding_all rfl)|exact Or.inl rfl|exact Or.inl trivial|exact okL_map _ (fun _=>rfl) _|(simp only[VVlen]<;>omega)|fail) only[VV0,VV1,VV2,VV3,VV4,VV5,VV6,VV7,VV8,VV9,mkFnV,vargs,slotsL,opdsA,Nat.reduceEqDiff,Nat.reduceLT,Nat.reduceAdd,Nat.reduceBEq,Int.reduceAdd,Int.reduceSub,Int.reduceLT,Int.reduceLE,Int.reduceEq,Int.reduceNeg,↓reduceIte,reduceCtorEq,scL,scD,expand,List.replicate,vsh,vshL,shH,shO,fzSL,fzS,f2,rw2,rw3,rw4,rw5,rw6,rw7,rw8,↓mk400 _ _ hM4,↓mk401 _ _ hM5])|apply gC_drawW|((first|apply gI_dec|apply gG_dec|apply gPG_dec|apply gI_var|apply gG_var|apply gPG_var)<;>intro _))
 refine callV_of (by rw[hC];exact e4) (snapL_2 (snap_ref rfl) rfl) rfl rfl ?_
 repeat' (first|(simp (disch:=first|omega|assumption|exact bd (by with_unfolding_all rfl)|exact Or.inl rfl|exact Or.inl trivial|exact okL_map _ (fun _=>rfl) _|(simp only[VVlen]<;>omega)|fail) only[VV0,VV1,VV2,VV3,VV4,VV5,VV6,VV7,VV8,VV9,mkFnV,vargs,slotsL,opdsA,Nat.reduceEqDiff,Nat.reduceLT,Nat.reduceAdd,Nat.reduceBEq,Int.reduceAdd,Int.reduceSub,Int.reduceLT,Int.reduceLE,Int.reduceEq,Int.reduceNeg,↓reduceIte,reduceCtorEq,scL,scD,expand,List.replicate,vsh,vshL,shH,shO,fzSL,fzS,f2,rw2,rw3,rw4,rw5,rw6,rw7,rw8,↓mk400 _ _ hM4,↓mk401 _ _ hM5])|apply gC_drawW|((first|apply gI_dec|apply gG_dec|apply gPG_dec|apply gI_var|apply gG_var|apply gPG_var)<;>intro _))
 refine callV_of (by rw[hC];exact e5) rfl rfl rfl ?_
 repeat' (first|(simp (disch:=first|omega|assumption|exact bd (by with_unfolding_all rfl)|exact Or.inl rfl|exact Or.inl trivial|exact okL_map _ (fun _=>rfl) _|(simp only[VVlen]<;>omega)|fail) only[VV0,VV1,VV2,VV3,VV4,VV5,VV6,VV7,VV8,VV9,mkFnV,vargs,slotsL,opdsA,Nat.reduceEqDiff,Nat.reduceLT,Nat.reduceAdd,Nat.reduceBEq,Int.reduceAdd,Int.reduceSub,Int.reduceLT,Int.reduceLE,Int.reduceEq,Int.reduceNeg,↓reduceIte,reduceCtorEq,scL,scD,expand,List.replicate,vsh,vshL,shH,shO,fzSL,fzS,f2,rw2,rw3,rw4,rw5,rw6,rw7,rw8,↓mk400 _ _ hM4,↓mk401 _ _ hM5])|apply gC_drawW|((first|apply gI_dec|apply gG_dec|apply gPG_dec|apply gI_var|apply gG_var|apply gPG_var)<;>intro _))
 refine callV_of (by rw[hC];exact e6) rfl rfl rfl ?_
 repeat' (first|(simp (disch:=first|omega|assumption|exact bd (by with_unfolding_all rfl)|exact Or.inl rfl|exact Or.inl trivial|exact okL_map _ (fun _=>rfl) _|(simp only[VVlen]<;>omega)|fail) only[VV0,VV1,VV2,VV3,VV4,VV5,VV6,VV7,VV8,VV9,mkFnV,vargs,slotsL,opdsA,Nat.reduceEqDiff,Nat.reduceLT,Nat.reduceAdd,Nat.reduceBEq,Int.reduceAdd,Int.reduceSub,Int.reduceLT,Int.reduceLE,Int.reduceEq,Int.reduceNeg,↓reduceIte,reduceCtorEq,scL,scD,expand,List.replicate,vsh,vshL,shH,shO,fzSL,fzS,f2,rw2,rw3,rw4,rw5,rw6,rw7,rw8,↓mk400 _ _ hM4,↓mk401 _ _ hM5])|apply gC_drawW|((first|apply gI_dec|apply gG_dec|apply gPG_dec|apply gI_var|apply gG_var|apply gPG_var)<;>intro _))
 refine callV_of (by rw[hC];exact e7) rfl rfl rfl ?_
 repeat' (first|(simp (disch:=first|omega|assumption|exact bd (by with_unfolding_all rfl)|exact Or.inl rfl|exact Or.inl trivial|exact okL_map _ (fun _=>rfl) _|(simp only[VVlen]<;>omega)|fail) only[VV0,VV1,VV2,VV3,VV4,VV5,VV6,VV7,VV8,VV9,mkFnV,vargs,slotsL,opdsA,Nat.reduceEqDiff,Nat.reduceLT,Nat.reduceAdd,Nat.reduceBEq,Int.reduceAdd,Int.reduceSub,Int.reduceLT,Int.reduceLE,Int.reduceEq,Int.reduceNeg,↓reduceIte,reduceCtorEq,scL,scD,expand,List.replicate,vsh,vshL,shH,shO,fzSL,fzS,f2,rw2,rw3,rw4,rw5,rw6,rw7,rw8,↓mk400 _ _ hM4,↓mk401 _ _ hM5])|apply gC_drawW|((first|apply gI_dec|apply gG_dec|apply gPG_dec|apply gI_var|apply gG_var|apply gPG_var)<;>intro _))
 refine callV_of (by rw[hC];exact e8) rfl rfl rfl ?_
 repeat' (first|(simp (disch:=first|omega|assumption|exact bd (by with_unfolding_all rfl)|exact Or.inl rfl|exact Or.inl trivial|exact okL_map _ (fun _=>rfl) _|(simp only[VVlen]<;>omega)|fail) only[VV0,VV1,VV2,VV3,VV4,VV5,VV6,VV7,VV8,VV9,mkFnV,vargs,slotsL,opdsA,Nat.reduceEqDiff,Nat.reduceLT,Nat.reduceAdd,Nat.reduceBEq,Int.reduceAdd,Int.reduceSub,Int.reduceLT,Int.reduceLE,Int.reduceEq,Int.reduceNeg,↓reduceIte,reduceCtorEq,scL,scD,expand,List.replicate,vsh,vshL,shH,shO,fzSL,fzS,f2,rw2,rw3,rw4,rw5,rw6,rw7,rw8,↓mk400 _ _ hM4,↓mk401 _ _ hM5])|apply gC_drawW|((first|apply gI_dec|apply gG_dec|apply gPG_dec|apply gI_var|apply gG_var|apply gPG_var)<;>intro _))
 refine callV_of (by rw[hC];exact e9) rfl rfl rfl ?_
 repeat' (first|(simp (disch:=first|omega|assumption|exact bd (by with_unfolding_all rfl)|exact Or.inl rfl|exact Or.inl trivial|exact okL_map _ (fun _=>rfl) _|(simp only[VVlen]<;>omega)|fail) only[VV0,VV1,VV2,VV3,VV4,VV5,VV6,VV7,VV8,VV9,mkFnV,vargs,slotsL,opdsA,Nat.reduceEqDiff,Nat.reduceLT,Nat.reduceAdd,Nat.reduceBEq,Int.reduceAdd,Int.reduceSub,Int.reduceLT,Int.reduceLE,Int.reduceEq,Int.reduceNeg,↓reduceIte,reduceCtorEq,scL,scD,expand,List.replicate,vsh,vshL,shH,shO,fzSL,fzS,f2,rw2,rw3,rw4,rw5,rw6,rw7,rw8,↓mk400 _ _ hM4,↓mk401 _ _ hM5])|apply gC_drawW|((first|apply gI_dec|apply gG_dec|apply gPG_dec|apply gI_var|apply gG_var|apply gPG_var)<;>intro _))
 refine callV_flat (by rw[hC];exact k1.flat rfl (snapL_one (snap_ref rfl))) ?_
 repeat' (first|(simp (disch:=first|omega|assumption|exact bd (by with_unfolding_all rfl)|exact Or.inl rfl|exact Or.inl trivial|exact okL_map _ (fun _=>rfl) _|(simp only[VVlen]<;>omega)|fail) only[VV0,VV1,VV2,VV3,VV4,VV5,VV6,VV7,VV8,VV9,mkFnV,vargs,slotsL,opdsA,Nat.reduceEqDiff,Nat.reduceLT,Nat.reduceAdd,Nat.reduceBEq,Int.reduceAdd,Int.reduceSub,Int.reduceLT,Int.reduceLE,Int.reduceEq,Int.reduceNeg,↓reduceIte,reduceCtorEq,scL,scD,expand,List.replicate,f2,rw2,rw3,rw4,rw5,rw6,rw7,rw8,↓mk400 _ _ hM4,↓mk401 _ _ hM5])|apply gC_drawW|((first|apply gI_dec|apply gG_dec|apply gPG_dec|apply gI_var|apply gG_var|apply gPG_var)<;>intro _))
 refine callV_flat (by rw[hC];exact k2.flat rfl rfl) ?_
 repeat' (first|(simp (disch:=first|omega|assumption|exact bd (by with_unfolding_all rfl)|exact Or.inl rfl|exact Or.inl trivial|exact okL_map _ (fun _=>rfl) _|(simp only[VVlen]<;>omega)|fail) only[VV0,VV1,VV2,VV3,VV4,VV5,VV6,VV7,VV8,VV9,mkFnV,vargs,slotsL,opdsA,Nat.reduceEqDiff,Nat.reduceLT,Nat.reduceAdd,Nat.reduceBEq,Int.reduceAdd,Int.reduceSub,Int.reduceLT,Int.reduceLE,Int.reduceEq,Int.reduceNeg,↓reduceIte,reduceCtorEq,scL,scD,expand,List.replicate,f2,rw2,rw3,rw4,rw5,rw6,rw7,rw8,↓mk400 _ _ hM4,↓mk401 _ _ hM5])|apply gC_drawW|((first|apply gI_dec|apply gG_dec|apply gPG_dec|apply gI_var|apply gG_var|apply gPG_var)<;>intro _))
 refine callV_flat (by rw[hC];exact k3.flat rfl rfl) ?_
 repeat' (first|(simp (disch:=first|omega|assumption|exact bd (by with_unfolding_all rfl)|exact Or.inl rfl|exact Or.inl trivial|exact okL_map _ (fun _=>rfl) _|(simp only[VVlen]<;>omega)|fail) only[VV0,VV1,VV2,VV3,VV4,VV5,VV6,VV7,VV8,VV9,mkFnV,vargs,slotsL,opdsA,Nat.reduceEqDiff,Nat.reduceLT,Nat.reduceAdd,Nat.reduceBEq,Int.reduceAdd,Int.reduceSub,Int.reduceLT,Int.reduceLE,Int.reduceEq,Int.reduceNeg,↓reduceIte,reduceCtorEq,scL,scD,expand,List.replicate,f2,rw2,rw3,rw4,rw5,rw6,rw7,rw8,↓mk400 _ _ hM4,↓mk401 _ _ hM5])|apply gC_drawW|((first|apply gI_dec|apply gG_dec|apply gPG_dec|apply gI_var|apply gG_var|apply gPG_var)<;>intro _))
 refine callV_flat (by rw[hC];exact k4.flat rfl rfl) ?_
 repeat' (first|(simp (disch:=first|omega|assumption|exact bd (by with_unfolding_all rfl)|exact Or.inl rfl|exact Or.inl trivial|exact okL_map _ (fun _=>rfl) _|(simp only[VVlen]<;>omega)|fail) only[VV0,VV1,VV2,VV3,VV4,VV5,VV6,VV7,VV8,VV9,mkFnV,vargs,slotsL,opdsA,Nat.reduceEqDiff,Nat.reduceLT,Nat.reduceAdd,Nat.reduceBEq,Int.reduceAdd,Int.reduceSub,Int.reduceLT,Int.reduceLE,Int.reduceEq,Int.reduceNeg,↓reduceIte,reduceCtorEq,scL,scD,expand,List.replicate,f2,rw2,rw3,rw4,rw5,rw6,rw7,rw8,↓mk400 _ _ hM4,↓mk401 _ _ hM5])|apply gC_drawW|((first|apply gI_dec|apply gG_dec|apply gPG_dec|apply gI_var|apply gG_var|apply gPG_var)<;>intro _))
 refine callV_flat (by rw[hC];exact r0.flat rfl rfl) ?_
 repeat' (first|(simp (disch:=first|omega|assumption|exact bd (by with_unfolding_all rfl)|exact Or.inl rfl|exact Or.inl trivial|exact okL_map _ (fun _=>rfl) _|(simp only[VVlen]<;>omega)|fail) only[VV0,VV1,VV2,VV3,VV4,VV5,VV6,VV7,VV8,VV9,mkFnV,vargs,slotsL,opdsA,Nat.reduceEqDiff,Nat.reduceLT,Nat.reduceAdd,Nat.reduceBEq,Int.reduceAdd,Int.reduceSub,Int.reduceLT,Int.reduceLE,Int.reduceEq,Int.reduceNeg,↓reduceIte,reduceCtorEq,scL,scD,expand,List.replicate,f2,rw2,rw3,rw4,rw5,rw6,rw7,rw8,↓mk400 _ _ hM4,↓mk401 _ _ hM5])|apply gC_drawW|((first|apply gI_dec|apply gG_dec|apply gPG_dec|apply gI_var|apply gG_var|apply gPG_var)<;>intro _))
 refine callV_flat (by rw[hC];exact r1.flat rfl rfl) ?_
 repeat' (first|(simp (disch:=first|omega|assumption|exact bd (by with_unfolding_all rfl)|exact Or.inl rfl|exact Or.inl trivial|exact okL_map _ (fun _=>rfl) _|(simp only[VVlen]<;>omega)|fail) only[VV0,VV1,VV2,VV3,VV4,VV5,VV6,VV7,VV8,VV9,mkFnV,vargs,slotsL,opdsA,Nat.reduceEqDiff,Nat.reduceLT,Nat.reduceAdd,Nat.reduceBEq,Int.reduceAdd,Int.reduceSub,Int.reduceLT,Int.reduceLE,Int.reduceEq,Int.reduceNeg,↓reduceIte,reduceCtorEq,scL,scD,expand,List.replicate,f2,rw2,rw3,rw4,rw5,rw6,rw7,rw8,↓mk400 _ _ hM4,↓mk401 _ _ hM5])|apply gC_drawW|((first|apply gI_dec|apply gG_dec|apply gPG_dec|apply gI_var|apply gG_var|apply gPG_var)<;>intro _))
 refine callV_flat (by rw[hC];exact r2.flat rfl rfl) ?_
 repeat' (first|(simp (disch:=first|omega|assumption|exact bd (by with_unfolding_all rfl)|exact Or.inl rfl|exact Or.inl trivial|exact okL_map _ (fun _=>rfl) _|(simp only[VVlen]<;>omega)|fail) only[VV0,VV1,VV2,VV3,VV4,VV5,VV6,VV7,VV8,VV9,mkFnV,vargs,slotsL,opdsA,Nat.reduceEqDiff,Nat.reduceLT,Nat.reduceAdd,Nat.reduceBEq,Int.reduceAdd,Int.reduceSub,Int.reduceLT,Int.reduceLE,Int.reduceEq,Int.reduceNeg,↓reduceIte,reduceCtorEq,scL,scD,expand,List.replicate,f2,rw2,rw3,rw4,rw5,rw6,rw7,rw8,↓mk400 _ _ hM4,↓mk401 _ _ hM5])|apply gC_drawW|((first|apply gI_dec|apply gG_dec|apply gPG_dec|apply gI_var|apply gG_var|apply gPG_var)<;>intro _))
 refine callV_flat (by rw[hC];exact r3.flat rfl rfl) ?_
 repeat' (first|(simp (disch:=first|omega|assumption|exact bd (by with_unfolding_all rfl)|exact Or.inl rfl|exact Or.inl trivial|exact okL_map _ (fun _=>rfl) _|(simp only[VVlen]<;>omega)|fail) only[VV0,VV1,VV2,VV3,VV4,VV5,VV6,VV7,VV8,VV9,mkFnV,vargs,slotsL,opdsA,Nat.reduceEqDiff,Nat.reduceLT,Nat.reduceAdd,Nat.reduceBEq,Int.reduceAdd,Int.reduceSub,Int.reduceLT,Int.reduceLE,Int.reduceEq,Int.reduceNeg,↓reduceIte,reduceCtorEq,scL,scD,expand,List.replicate,f2,rw2,rw3,rw4,rw5,rw6,rw7,rw8,↓mk400 _ _ hM4,↓mk401 _ _ hM5])|apply gC_drawW|((first|apply gI_dec|apply gG_dec|apply gPG_dec|apply gI_var|apply gG_var|apply gPG_var)<;>intro _))
 refine callV_flat (by rw[hC];exact r4.flat rfl rfl) ?_
 repeat' (first|(simp (disch:=first|omega|assumption|exact bd (by with_unfolding_all rfl)|exact Or.inl rfl|exact Or.inl trivial|exact okL_map _ (fun _=>rfl) _|(simp only[VVlen]<;>omega)|fail) only[VV0,VV1,VV2,VV3,VV4,VV5,VV6,VV7,VV8,VV9,mkFnV,vargs,slotsL,opdsA,Nat.reduceEqDiff,Nat.reduceLT,Nat.reduceAdd,Nat.reduceBEq,Int.reduceAdd,Int.reduceSub,Int.reduceLT,Int.reduceLE,Int.reduceEq,Int.reduceNeg,↓reduceIte,reduceCtorEq,scL,scD,expand,List.replicate,f2,rw2,rw3,rw4,rw5,rw6,rw7,rw8,↓mk400 _ _ hM4,↓mk401 _ _ hM5])|apply gC_drawW|((first|apply gI_dec|apply gG_dec|apply gPG_dec|apply gI_var|apply gG_var|apply gPG_var)<;>intro _))
 refine callV_flat (by rw[hC];exact r5.flat rfl rfl) ?_
 repeat' (first|(simp (disch:=first|omega|assumption|exact bd (by with_unfolding_all rfl)|exact Or.inl rfl|exact Or.inl trivial|exact okL_map _ (fun _=>rfl) _|(simp only[VVlen]<;>omega)|fail) only[VV0,VV1,VV2,VV3,VV4,VV5,VV6,VV7,VV8,VV9,mkFnV,vargs,slotsL,opdsA,Nat.reduceEqDiff,Nat.reduceLT,Nat.reduceAdd,Nat.reduceBEq,Int.reduceAdd,Int.reduceSub,Int.reduceLT,Int.reduceLE,Int.reduceEq,Int.reduceNeg,↓reduceIte,reduceCtorEq,scL,scD,expand,List.replicate,f2,rw2,rw3,rw4,rw5,rw6,rw7,rw8,↓mk400 _ _ hM4,↓mk401 _ _ hM5])|apply gC_drawW|((first|apply gI_dec|apply gG_dec|apply gPG_dec|apply gI_var|apply gG_var|apply gPG_var)<;>intro _))
 refine callV_flat (by rw[hC];exact al.flat rfl rfl) ?_
 repeat' (first|(simp (disch:=first|omega|assumption|exact bd (by with_unfolding_all rfl)|exact Or.inl rfl|exact Or.inl trivial|exact okL_map _ (fun _=>rfl) _|(simp only[VVlen]<;>omega)|fail) only[VV0,VV1,VV2,VV3,VV4,VV5,VV6,VV7,VV8,VV9,mkFnV,vargs,slotsL,opdsA,Nat.reduceEqDiff,Nat.reduceLT,Nat.reduceAdd,Nat.reduceBEq,Int.reduceAdd,Int.reduceSub,Int.reduceLT,Int.reduceLE,Int.reduceEq,Int.reduceNeg,↓reduceIte,reduceCtorEq,scL,scD,expand,List.replicate])|apply gC_drawW|((first|apply gI_dec|apply gG_dec|apply gPG_dec|apply gI_var|apply gG_var|apply gPG_var)<;>intro _))
 exact weak_flat rfl h0 rfl
end Go.Proofs.YtkjkiodoighgnaaGreatDoor
namespace Go.Proofs.YtkjkiodoighgnaaGreatDoor
open Go Go.Itp
open Go.ChangeShapes Go.WideShapes Go.ChangeAt Go.RowKit
set_option linter.unusedVariables false
set_option maxRecDepth 100000
set_option maxHeartbeats 4000000
theorem reach_lt:reachBytes≤140737488351232:=by decide
def listed:List (String × DataW Unit):= [("math/bits.deBruijn32tab",Rows.laid_math_bits_deBruijn32tab),("math/bits.deBruijn64tab",Rows.laid_math_bits_deBruijn64tab),("internal/strconv.uint64pow10",Rows.laid_internal_strconv_uint64pow10),("unicode/utf8.acceptRanges",Rows.laid_unicode_utf8_acceptRanges),("strconv.ErrRange",Rows.laid_strconv_ErrRange),("strconv.ErrSyntax",Rows.laid_strconv_ErrSyntax),("unicode/utf8.first",Rows.laid_unicode_utf8_first)]
theorem listed_met (os:Os) (args:Array Value):laidMetH Tryz.prog listed ((World.laidAll Tryz.prog os listed).forCall (fun _ _=>0) ⟨#[],args,[]⟩).memory:=by
 rw[MakeChecks.laidMetH_plain _ _ _ (by kernel_rfl)]
 exact laidMet_laidAll _ (by kernel_rfl) (by kernel_rfl)
theorem listed_shaped (os:Os):(World.laidAll Tryz.prog os listed).Shaped Tryz.prog:=World.shaped_of_ZipB (by kernel_rfl) (by kernel_rfl)
theorem stand_ins {l:List TypeId} {t:TypeId} (hall:(l.all fun u=> !Tryz.prog.wantsStandIn u)=true) (h:t ∈ l):Tryz.prog.wantsStandIn t=false:=by
 have:=List.all_eq_true.1 hall t h
 simpa using this
theorem names_lifted (os:Os) (started:os.Started) (H:Type) (enc:TypeId × Value→H):
  ReturnsInHanded {} Tryz.checked os 4 .any (fun w args=>(Rows.threadNamesSpec.pre enc Tryz.prog Tryz.f4 [] false w args∧laidMetH Tryz.prog listed w)∧sizedMet enc Tryz.prog Tryz.f4 (OpenSpec.ofChange Rows.threadNamesSpec) false w args)
   (Rows.threadNamesSpec.post enc Tryz.prog Tryz.f4 false true false false):=by
 refine returnsInHanded_of_change_and (C:=Tryz.checked) (X:=fun w _=>laidMetH Tryz.prog listed w) (fun _ _ _ hh h=>h.of_heap hh) own started (by kernel_rfl) Tryz.func4
  (ChangeSpec.witness_shaped (enc:=enc) (C:=Tryz.checked) (os:=os) (X:=fun w _=>laidMetH Tryz.prog listed w) false (World.laidAll Tryz.prog os listed) #[] 8 (World.laidAll_os _ _ _) (listed_shaped os) (by kernel_rfl) (by kernel_rfl) (by kernel_rfl) (listed_met os _)) ?_
 intro W base args ds gs before hval0 hW _ hsz0 hL _
 have hval:∀ (j:Nat) t v,Tryz.f4.params[j]? =some t→args[j]? =some v→Value.okWide Tryz.prog W .any base t v:=hval0
 have hW':=hW
 obtain ⟨p,q,hA0,hV,rfl,hfz,hnd⟩:=hW
 have hA:DataW.TrodAll enc Tryz.prog W 0 (fun _=>true) true Tryz.f4.params.toList args.toList ds p:=hA0
 have hsz:(DataW.weightsEach Tryz.prog (Tryz.f4.params.toList++Rows.threadNamesSpec.plain.varTypes Tryz.prog) (ds++gs)).all (· ≤reachBytes)=true:=hsz0
 rw[Tryz.params4] at hA hval hsz
 obtain ⟨hargs,rfl,rfl⟩:=trodAll_nil hA
 obtain rfl:args=#[]:=by cases args;simp_all
 have hr:=reach_lt
 have hLm:laidMet Tryz.prog listed W:=by rw[← MakeChecks.laidMetH_plain _ _ _ (by kernel_rfl)];exact hL
 have htab:Tab W:=laid_tab hLm 2 rfl (g:=5) (t:=133) (e:=78) (k:= .u64) (m:=20) (by kernel_rfl) (by kernel_rfl) Tryz.underlying133 Tryz.underlying78 (by kernel_rfl) (by kernel_rfl) rfl
 have hesy:(errO Tryz.prog W "strconv.ErrSyntax").isSome=true:=laid_errO hLm 5 rfl (g:=0) (t:=57) (by kernel_rfl) (by kernel_rfl) Tryz.underlying57
 have herr:(errO Tryz.prog W "strconv.ErrRange").isSome=true:=laid_errO hLm 4 rfl (g:=1) (t:=57) (by kernel_rfl) (by kernel_rfl) Tryz.underlying57
 obtain ⟨s',hbody⟩:=law_v (old:=oldOf W) (rounds:=many) (fns:=fns) (prims:=PR W) (n:=10) (af:=c4) (xs:= []) (xsI:= []) (x:= .bool true) (Nat.le_of_ble_eq_true rfl)
  (by simp only[VRepL]) fun C hC hn=>names_g W hesy herr hC hn
 have hfn:fns 4=some c4:=rfl
 have hrv:ids 0 (.bool true)= []:=rfl
 refine (law_of htab (f:=4) (af:=c4) hfn (xs:= []) rfl _ hbody hrv).mono fun e W' ⟨he,hbe⟩=>?_
 exact ⟨_,he,law_post hW' rfl rfl (by kernel_rfl) (by kernel_rfl) Tryz.underlying4 hbe⟩
theorem names_over:Rows.ThreadNamesSaid:=
 OpenClaim.holds_of_wide 4 Tryz.f4 rfl rfl rfl rfl rfl rfl rfl ⟨rfl,rfl,rfl,rfl,rfl⟩ rfl rfl rfl rfl rfl (by kernel_rfl) Tryz.func4 (by kernel_rfl)
  (of_decide_eq_true (by kernel_rfl)) (by unfold Func.isWrapper;first|(rw[if_pos (by decide+kernel)];kernel_rfl)|(rw[if_neg (by decide+kernel)];exact ⟨rfl,rfl⟩))
  (fun os started H enc _=>names_lifted os started H enc)
theorem names_holds:Rows.ThreadNamesCardSaid:=
 Claim7.holds_tied_plain_at .later [] [.data,.data,.data,.data,.sentinel,.sentinel,.pinned] true _ true
  names_over (fun _ h=>by cases h) (by kernel_rfl) (fun _ h=>by cases h) threadNames_row_tie rfl ⟨rfl,rfl⟩ (by kernel_rfl) rfl
  (fun f fn hf hfn=>by
   obtain rfl:f=4:=Option.some.inj ((show Tryz.prog.funcNamed "raddle/raddlelaw02.ThreadNames"=some 4 by kernel_rfl).symm.trans hf)|>.symm
   obtain rfl:fn=Tryz.f4:=(Option.some.inj (Tryz.func4.symm.trans hfn)).symm
   exact ⟨by kernel_rfl,fun j t ht=>stand_ins (l:= []) (by kernel_rfl) (by rw[Tryz.params4] at ht;simpa using Array.mem_of_getElem? ht)⟩)
  (by kernel_rfl)
#print axioms names_holds
end Go.Proofs.YtkjkiodoighgnaaGreatDoor
