/- What is proved: the law GradeTexts returns true for every input. Conditions: none beyond the card's own.
   Texts: G40o, G40p, G40q, G40r, G40s, G40t, G40u, R40a, R40b, R40c, R40d, G40v, R40e, R40f.
-/
import Derived.Test.YteibgbbfcjgjiaaDoorPart5
import Derived.Test.YteibgbbfcjgjiaaDoorCards
import Derived.Test.YteibgbbfcjgjiaaDoorTie
import Derived.SizedLaws
import Derived.ChangeAt
import Derived.SevenTiedAt
import Derived.Stop.Joined
import Derived.Lay
namespace Go.Proofs.YteibgbbfcjgjiaaDoor
open Go Go.Itp
set_option maxRecDepth 100000
set_option maxHeartbeats 2000000
set_option linter.unusedSimpArgs false
set_option linter.unusedVariables false
theorem vslc_loR (e o n c:Nat) (j:IntKind) (hc:c<1000000000000) (hn:n≤c) (h1:1≤n):vslc e (some (.int j 1)) none none (.ref o 0 n c)=some (.ref o (if c=1 then 0 else 1*e) (n - 1) (c - 1)):=by
 have h2:Nat.blt c big=true:=by rw[Nat.blt_eq];unfold big;omega
 have h4:slcN n c (some (.int j 1)) none none=some (1,n,c - 1,Nat.beq c 1):=by
  simp only[slcN,knownCap,h2,if_true,bndNat,Option.bind_some]
  rw[if_pos ⟨by omega,by omega⟩]
  simp[h2]
 simp only[vslc,h4,Option.map_some]
 by_cases hb:c=1
 ·rw[if_pos (nbeq.2 hb),if_pos hb]
 ·rw[if_neg (by rw[nbeq];exact hb),if_neg hb];simp
section
variable (w:World) (n:Nat)
theorem trim0_p (l:List UInt8) (hl:l.length≤1000000):VSpec (EN w (n+2)) 55 [strV l,strV [10]] (strV (trimS l)) ⟨[],0,0⟩:=by
 refine vspec_flat rfl rfl (fun _ _=>rfl) (Nat.le_of_ble_eq_true rfl) (oldVals w) rfl fun C hC h0=>?_
 have h1:(ByteArray.mk [(10:UInt8)].toArray).size=1:=rfl
 have h1b:(ByteArray.mk #[(10:UInt8)]).size=1:=rfl
 have h1i:((1:Nat):Int)=1:=rfl
 have hsz:=mk_size l
 have hs:=(hasSuf_p w n l 10 hl).of hC rfl
 unfold trimS
 by_cases hg:l.getLast? =some 10
 ·rw[decide_eq_true hg] at hs
  rw[if_pos hg]
  have hn:l ≠ []:=fun e=>by rw[e] at hg;cases hg
  have hp:=List.length_pos_iff.2 hn
  have e2:=slcS_hi l .i64 ((l.length:Int) - 1) (by omega) (by omega)
  rw[show ((l.length:Int) - 1).toNat=l.length - 1 by omega,← List.dropLast_eq_take] at e2
  have e3:(((ByteArray.mk l.toArray).size:Nat):Int) - 1=(l.length:Int) - 1:=by rw[hsz]
  simp (disch:=first|omega|assumption|exact bd (by with_unfolding_all rfl)|exact Or.inl rfl|exact Or.inl trivial|exact okL_map _ (fun _=>rfl) _|(simp only[VVlen]<;>omega)|fail) only[O1,WA,slotsL,opdsA,Nat.reduceEqDiff,Nat.reduceLT,Nat.reduceAdd,Nat.reduceBEq,Int.reduceAdd,Int.reduceSub,Int.reduceLT,Int.reduceLE,Int.reduceEq,Int.reduceNeg,↓reduceIte,reduceCtorEq,List.replicate,c55]
  refine callV_flat (hs _ rfl) ?_
  simp (disch:=first|omega|assumption|exact bd (by with_unfolding_all rfl)|exact Or.inl rfl|exact Or.inl trivial|exact okL_map _ (fun _=>rfl) _|(simp only[VVlen]<;>omega)|fail) only[O1,WA,slotsL,opdsA,Nat.reduceEqDiff,Nat.reduceLT,Nat.reduceAdd,Nat.reduceBEq,Int.reduceAdd,Int.reduceSub,Int.reduceLT,Int.reduceLE,Int.reduceEq,Int.reduceNeg,↓reduceIte,reduceCtorEq,List.replicate,h1,h1b,h1i,e3,e2]
  exact weak_flat rfl h0 rfl
 ·rw[decide_eq_false hg] at hs
  rw[if_neg hg]
  simp (disch:=first|omega|assumption|exact bd (by with_unfolding_all rfl)|exact Or.inl rfl|exact Or.inl trivial|exact okL_map _ (fun _=>rfl) _|(simp only[VVlen]<;>omega)|fail) only[O1,WA,slotsL,opdsA,Nat.reduceEqDiff,Nat.reduceLT,Nat.reduceAdd,Nat.reduceBEq,Int.reduceAdd,Int.reduceSub,Int.reduceLT,Int.reduceLE,Int.reduceEq,Int.reduceNeg,↓reduceIte,reduceCtorEq,List.replicate,c55]
  refine callV_flat (hs _ rfl) ?_
  simp (disch:=first|omega|assumption|exact bd (by with_unfolding_all rfl)|exact Or.inl rfl|exact Or.inl trivial|exact okL_map _ (fun _=>rfl) _|(simp only[VVlen]<;>omega)|fail) only[O1,WA,slotsL,opdsA,Nat.reduceEqDiff,Nat.reduceLT,Nat.reduceAdd,Nat.reduceBEq,Int.reduceAdd,Int.reduceSub,Int.reduceLT,Int.reduceLE,Int.reduceEq,Int.reduceNeg,↓reduceIte,reduceCtorEq,List.replicate]
  exact weak_flat rfl h0 rfl
theorem trim_p (l:List UInt8) (hl:l.length≤1000000):VSpec (EN w (n+3)) 37 [strV l,strV [10]] (strV (trimS l)) ⟨[],0,0⟩:=by
 refine vspec_flat rfl rfl (fun _ _=>rfl) (Nat.le_of_ble_eq_true rfl) (oldVals w) rfl fun C hC h0=>?_
 simp (disch:=first|omega|assumption|exact bd (by with_unfolding_all rfl)|exact Or.inl rfl|exact Or.inl trivial|exact okL_map _ (fun _=>rfl) _|(simp only[VVlen]<;>omega)|fail) only[O1,WA,slotsL,opdsA,Nat.reduceEqDiff,Nat.reduceLT,Nat.reduceAdd,Nat.reduceBEq,Int.reduceAdd,Int.reduceSub,Int.reduceLT,Int.reduceLE,Int.reduceEq,Int.reduceNeg,↓reduceIte,reduceCtorEq,List.replicate,c37]
 refine callV_flat ((trim0_p w n l hl).of hC rfl _ rfl) ?_
 repeat' (first|(simp (disch:=first|omega|assumption|exact bd (by with_unfolding_all rfl)|exact Or.inl rfl|exact Or.inl trivial|exact okL_map _ (fun _=>rfl) _|(simp only[VVlen]<;>omega)|fail) only[O1,WA,slotsL,opdsA,Nat.reduceEqDiff,Nat.reduceLT,Nat.reduceAdd,Nat.reduceBEq,Int.reduceAdd,Int.reduceSub,Int.reduceLT,Int.reduceLE,Int.reduceEq,Int.reduceNeg,↓reduceIte,reduceCtorEq,List.replicate])|apply gC_drawW|((first|apply gI_dec|apply gG_dec|apply gPG_dec|apply gI_var|apply gG_var|apply gPG_var)<;>intro _))
 exact weak_flat rfl h0 rfl
theorem atoi_any {C:Ctx} {st:VSt} {Q:V→VSt→Prop} (hC:C.E=EN w (n+1)) (l:List UInt8) (hl:l.length≤1000000) (hes:(errO Tryd.prog w "strconv.ErrSyntax").isSome=true) (her:(errO Tryd.prog w "strconv.ErrRange").isSome=true)
  (h1:∀ v,numA l=some v→Q (.tup [.sc (.int .i64 v),.sc .nilIface]) st)
  (h2:numA l=none→∀ (k:Int) (cs:List V),Q (.tup [.sc (.int .i64 k),.ifc 100 (.ptr st.next 0)]) ⟨(st.next,.box 119 1 cs)::st.own,st.next+1,st.ro⟩):CallV C 38 [strV l] st Q:=by
 have hs:(ByteArray.mk l.toArray).size≤281474976710656:=by rw[mk_size];omega
 cases hu:numA l with
 |some v=>exact callV_flat (by rw[hC];exact atoi_s w n _ ⟨l.toArray⟩ v hs (numA_ok hu)) (h1 v hu)
 |none=>
  obtain ⟨k,cs,sp⟩:=atoi_f w n ⟨l.toArray⟩ hs hes her (numA_none hu)
  refine callV_of (by rw[hC];exact sp) rfl rfl rfl ?_
  obtain ⟨H,nx,ro⟩:=st
  have:=h2 hu k (vshL nx (cs.map V.sc))
  simp only[vsh,vshL,shH,shO,fzSL,fzS,frozA_none,Nat.add_zero,Nat.zero_add,List.nil_append,List.cons_append] at this ⊢
  exact this
end
end Go.Proofs.YteibgbbfcjgjiaaDoor
namespace Go.Proofs.YteibgbbfcjgjiaaDoor
open Go Go.Itp
set_option maxRecDepth 100000
set_option maxHeartbeats 2000000
set_option linter.unusedSimpArgs false
set_option linter.unusedVariables false
abbrev parH (ls S N:List (List UInt8)) (M:List (List Int)):VHp:=
 [(4,.gro 40 1 false (M.map (rowI 0))),(3,.gro 9 1 false (N.map sD)),(2,.row 9 1 false false (ls.map sD)),(1,.box 25 1 [strs 0 S,.gr 2 3 N.length,.gr 2 4 M.length]),(0,.box 25 1 [.sc (.slice none 0 0),.sc (.slice none 0 0),.sc (.slice none 0 0)])]
def fillI (l:List Int) (m:Nat):List D:=l.map iD++List.replicate (m - l.length) (D.sc (.int .i64 0))
theorem fillI_len (l:List Int) (m:Nat) (h:l.length≤m):(fillI l m).length=m:=by simp[fillI];omega
theorem fillI_set (l:List Int) (v:Int) (m:Nat) (h:l.length<m):(fillI l m).take l.length++ [D.sc (.int .i64 v)]++(fillI l m).drop (l.length+1)=fillI (l++ [v]) m:=by
 unfold fillI
 rw[List.take_append_of_le_length (by simp),List.take_of_length_le (by simp),List.drop_append,List.length_map,List.drop_eq_nil_of_le (by simp),List.nil_append,List.length_append,List.map_append,List.drop_replicate]
 simp only[List.length_singleton,List.map_cons,List.map_nil,List.append_assoc]
 rw[show m - l.length - (l.length+1 - l.length)=m - (l.length+1) by omega]
 rfl
theorem fillI_take (l:List Int) (m:Nat):(fillI l m).take l.length=l.map iD:=by
 unfold fillI
 rw[List.take_append_of_le_length (by simp),List.take_of_length_le (by simp)]
theorem allN_snoc (f:List UInt8→Option Int):∀ (a:List (List UInt8)) (l:List Int) (r:List (List UInt8)),allN f a=some l→allN f (a++r)=(allN f r).map (l++·)
 | [],l,r,h=>by simp only[allN,Option.some.injEq] at h;subst h;simp
 |x::a,l,r,h=>by
  simp only[allN,Option.bind_eq_some_iff,Option.map_eq_some_iff] at h
  obtain ⟨v,h1,l',h2,rfl⟩:=h
  simp only[List.cons_append,allN,h1,Option.bind_some,allN_snoc f a l' r h2]
  cases allN f r<;>rfl
theorem allN_len {f:List UInt8→Option Int}:∀ {a:List (List UInt8)} {l:List Int},allN f a=some l→l.length=a.length
 | [],l,h=>by simp only[allN,Option.some.injEq] at h;subst h;rfl
 |x::a,l,h=>by
  simp only[allN,Option.bind_eq_some_iff,Option.map_eq_some_iff] at h
  obtain ⟨v,h1,l',h2,rfl⟩:=h
  simp[allN_len h2]
theorem appFull_in (nx t e b n c o k m:Nat) (base:Src) (new:List D) (fz:List Nat) (hm:m ≠ 0) (hc:n+m≤c):appFull nx t e b n c o k base (some (m,new,fz))=none:=by
 have h:Nat.blt c (n+m)=false:=by rw[← Bool.not_eq_true,Nat.blt_eq];omega
 simp only[appFull,h,Bool.and_false,Bool.false_and,Bool.false_eq_true,if_false]
 rw[if_neg (by rw[nbeq];exact hm)]
 split<;>rfl
theorem appRoom_lo (H:VHp) (nx ro t e b o k n c t' e' m:Nat) (g:Bool) (l new:List D) (hro:ro≤o) (he:e ≠ 0) (hm:m ≠ 0) (hok:okL new=true) (hle:n+m≤c) (hc:c≤1099511627776) (h2:(n+m)*b≤1099511627776) (hl:k+n*e+new.length≤l.length):
  appRoom ⟨H,nx,ro⟩ t e b o k n c (some (.row t' e' g false l)) (some (m,new,[]))=some (.ref o k (n+m) c,⟨aset H o (.row t' e' g false (l.take (k+n*e)++new++l.drop (k+n*e+new.length))),nx,ro⟩):=by
 simp only[appRoom,hok]
 have hb:Nat.ble ro o=true:=by rw[Nat.ble_eq];exact hro
 have h3:Nat.ble (n+m) room=true:=by rw[Nat.ble_eq];unfold room;omega
 have h4:Nat.ble ((n+m)*b) room=true:=by rw[Nat.ble_eq];exact h2
 have h5:Nat.blt c big=true:=by rw[Nat.blt_eq];unfold big;omega
 have h6:Nat.ble (n+m) c=true:=by rw[Nat.ble_eq];exact hle
 rw[if_pos (by simp[nbf.2 he,rowsB]),if_neg (by simp[hb,h3,h4,nbf.2 hm]),if_pos h5,if_pos (by rw[h6];simp[elemB])]
 rw[putL_mid _ _ _ hl,frozA_nil]
 rfl
section
variable (w:World) (n:Nat)
theorem nums_walk {C:Ctx} (hC:C.E=EN w (n+7)) (h0:C.w0.nx=0) (hes:(errO Tryd.prog w "strconv.ErrSyntax").isSome=true) (her:(errO Tryd.prog w "strconv.ErrRange").isSome=true) (s:List UInt8) (ls S N:List (List UInt8)) (M:List (List Int)) (i:Nat) (ws:List (List UInt8)) (hw:0<ws.length) (hwl:ws.length≤10000) (hx:∀ x ∈ ws,x.length≤10000) {K:List KF} {P:VPost}
  (hgo:∀ l,allN numA ws.tail=some l→gK C K (.exit 2) [(0,strV s),(2,.ptr 0 0),(4,.ptr 1 0),(7,.ref 5 0 ws.length ws.length),(8,.ref 6 0 l.length ws.length),(21,.ref 2 0 ls.length ls.length),(22,.sc (.int .i64 ls.length)),(23,.sc (.int .i64 i)),(39,.ref 5 (if ws.length=1 then 0 else 1) (ws.length - 1) (ws.length - 1)),(40,.sc (.int .i64 ((ws.length - 1:Nat):Int))),(41,.sc (.int .i64 ((ws.length - 1:Nat):Int))),(42,.sc (.bool false))] ⟨(6,.row 3 1 false false (fillI l ws.length))::(5,.row 9 1 false false (ws.map sD))::parH ls S N M,7,0⟩ P)
  (hstop:allN numA ws.tail=none→∀ fr st,st.ro=0→aget st.own 0=some (.box 25 1 [.sc (.slice none 0 0),.sc (.slice none 0 0),.sc (.slice none 0 0)])→aget fr 2=some (.ptr 0 0)→aget fr 3=some (.sc (.int .i64 12))→gK C K .ret fr st P):
  gL C [0,2,4,7,8,21,22,23,39,40,41] c12l0 K [(0,strV s),(2,.ptr 0 0),(4,.ptr 1 0),(7,.ref 5 0 ws.length ws.length),(8,.ref 6 0 0 ws.length),(21,.ref 2 0 ls.length ls.length),(22,.sc (.int .i64 ls.length)),(23,.sc (.int .i64 i)),(39,.ref 5 (if ws.length=1 then 0 else 1) (ws.length - 1) (ws.length - 1)),(40,.sc (.int .i64 ((ws.length - 1:Nat):Int))),(41,.sc (.int .i64 0))] ⟨(6,.row 3 1 false false (fillI [] ws.length))::(5,.row 9 1 false false (ws.map sD))::parH ls S N M,7,0⟩ P:=by
 have hrn:C.E.rounds=many:=by rw[hC,callP_rounds]
 refine g_while (fun m fr st=>∃ (j:Nat) (l:List Int),m=ws.length - 1 - j∧j≤ws.length - 1∧allN numA (ws.tail.take j)=some l∧fr= [(0,strV s),(2,.ptr 0 0),(4,.ptr 1 0),(7,.ref 5 0 ws.length ws.length),(8,.ref 6 0 l.length ws.length),(21,.ref 2 0 ls.length ls.length),(22,.sc (.int .i64 ls.length)),(23,.sc (.int .i64 i)),(39,.ref 5 (if ws.length=1 then 0 else 1) (ws.length - 1) (ws.length - 1)),(40,.sc (.int .i64 ((ws.length - 1:Nat):Int))),(41,.sc (.int .i64 j))]∧
  st=⟨(6,.row 3 1 false false (fillI l ws.length))::(5,.row 9 1 false false (ws.map sD))::parH ls S N M,7,0⟩) (ws.length - 1) ?_ ⟨_,_,.refl _ _,0,[],by omega,Nat.zero_le _,by simp[allN],rfl,rfl⟩ ?_
 ·rw[hrn];unfold many;omega
 rintro m fr st ⟨j,l,rfl,hj,hal,rfl,rfl⟩
 have hll:=allN_len hal
 have htl:ws.tail.length=ws.length - 1:=by simp
 rw[List.length_take,htl,Nat.min_eq_left hj] at hll
 by_cases hlt:j<ws.length - 1
 case neg=>
  have:j=ws.length - 1:=by omega
  subst this
  rw[List.take_of_length_le (by omega)] at hal
  have hgo:=hgo l hal
  simp (disch:=first|omega|assumption|exact bd (by with_unfolding_all rfl)|exact Or.inl rfl|exact Or.inl trivial|exact okL_map _ (fun _=>rfl) _|(simp only[VVlen]<;>omega)|fail) only[O1,WA,slotsL,opdsA,Nat.reduceEqDiff,Nat.reduceLT,Nat.reduceAdd,Nat.reduceBEq,Int.reduceAdd,Int.reduceSub,Int.reduceLT,Int.reduceLE,Int.reduceEq,Int.reduceNeg,↓reduceIte,reduceCtorEq,List.replicate,c12l0]
  all_goals try (exfalso;omega)
  exact hgo
 have hw1:¬ ws.length=1:=by omega
 rw[if_neg hw1]
 have hwm:(ws.map sD).length=ws.length:=by rw[List.length_map]
 have hjw:ws.tail[j]! =ws[j+1]! :=by
  rw[getElem!_pos _ j (by omega),getElem!_pos ws (j+1) (by omega)]
  simp
 have hxj:=hx ws[j+1]! (by rw[getElem!_pos ws (j+1) (by omega)];exact List.getElem_mem (by omega))
 have htk:ws.tail.take (j+1)=ws.tail.take j++ [ws[j+1]!]:=by
  rw[List.take_succ_eq_append_getElem (by omega),← getElem!_pos ws.tail j (by omega),hjw]
 have hsplit:ws.tail=ws.tail.take j++(ws[j+1]! ::ws.tail.drop (j+1)):=by
  rw[← hjw,getElem!_pos ws.tail j (by omega),← List.drop_eq_getElem_cons (by omega),List.take_append_drop]
 have hnone:numA ws[j+1]! =none→allN numA ws.tail=none:=fun hv=>by
  rw[hsplit,allN_snoc _ _ _ _ hal,allN,hv];rfl
 have hsome:∀ v,numA ws[j+1]! =some v→allN numA (ws.tail.take (j+1))=some (l++ [v]):=fun v hv=>by
  rw[htk,allN_snoc _ _ _ _ hal,allN,hv];rfl
 have hadd:j+1=1+j:=by omega
 generalize hX:ws[j+1]! =X at*
 have hX2:ws[1+j]! =X:=by rw[← hadd];exact hX
 simp (disch:=first|omega|assumption|exact bd (by with_unfolding_all rfl)|exact Or.inl rfl|exact Or.inl trivial|exact okL_map _ (fun _=>rfl) _|(simp only[VVlen]<;>omega)|fail) only[O1,WA,slotsL,opdsA,Nat.reduceEqDiff,Nat.reduceLT,Nat.reduceAdd,Nat.reduceBEq,Int.reduceAdd,Int.reduceSub,Int.reduceLT,Int.reduceLE,Int.reduceEq,Int.reduceNeg,↓reduceIte,reduceCtorEq,List.replicate,c12l0,sD_dv,hX,hX2]
 all_goals try (exfalso;omega)
 have hfs:=fun v=>fillI_set l v ws.length (by omega)
 have hfl:=fillI_len l ws.length (by omega)
 refine atoi_any w (n+6) hC X (by omega) hes her (fun v hv=>?_) (fun hv kv cv=>?_)
 ·simp (disch:=first|omega|assumption|exact bd (by with_unfolding_all rfl)|exact Or.inl rfl|exact Or.inl trivial|exact okL_map _ (fun _=>rfl) _|(simp only[VVlen]<;>omega)|fail) only[O1,WA,slotsL,opdsA,Nat.reduceEqDiff,Nat.reduceLT,Nat.reduceAdd,Nat.reduceBEq,Int.reduceAdd,Int.reduceSub,Int.reduceLT,Int.reduceLE,Int.reduceEq,Int.reduceNeg,↓reduceIte,reduceCtorEq,List.replicate,eqIf_ifc,eqIf_nil,eqIfA_nn,appFull_in,appRoom_lo,Nat.mul_one,Nat.zero_add]
  all_goals try (exfalso;omega)
  refine ⟨_,_,_,?_,weak_toB [(6,6),(5,5),(4,4),(3,3),(2,2),(1,1),(0,0)] 7 (by rw[h0];exact Nat.zero_le _) rfl (by rw[h0];rfl) ?_ ?_,j+1,l++ [v],rfl,by omega,hsome v hv,rfl,rfl⟩
  ·omega
  ·rw[List.length_append,List.length_singleton]
   rfl
  ·rw[hfs]
   rfl
 ·simp (disch:=first|omega|assumption|exact bd (by with_unfolding_all rfl)|exact Or.inl rfl|exact Or.inl trivial|exact okL_map _ (fun _=>rfl) _|(simp only[VVlen]<;>omega)|fail) only[O1,WA,slotsL,opdsA,Nat.reduceEqDiff,Nat.reduceLT,Nat.reduceAdd,Nat.reduceBEq,Int.reduceAdd,Int.reduceSub,Int.reduceLT,Int.reduceLE,Int.reduceEq,Int.reduceNeg,↓reduceIte,reduceCtorEq,List.replicate,eqIf_ifc,eqIf_nil,eqIfA_nn]
  exact hstop (hnone hv) _ _ rfl rfl rfl rfl
end
end Go.Proofs.YteibgbbfcjgjiaaDoor
namespace Go.Proofs.YteibgbbfcjgjiaaDoor
open Go Go.Itp
set_option maxRecDepth 100000
set_option maxHeartbeats 2000000
set_option linter.unusedSimpArgs false
set_option linter.unusedVariables false
section
variable (w:World) (n:Nat)
theorem row_round {C:Ctx} (hC:C.E=EN w (n+7)) (h0:C.w0.nx=0) (hes:(errO Tryd.prog w "strconv.ErrSyntax").isSome=true) (her:(errO Tryd.prog w "strconv.ErrRange").isSome=true) (s:List UInt8) (ls S N:List (List UInt8)) (M:List (List Int)) (i:Nat) (hi0:0<i) (hil:i<ls.length) (hls:ls.length≤10000) (hN:N.length≤10000) (hNM:M.length=N.length) (X:List UInt8) (hX:ls[i]! =X) (hXl:X.length≤8000) (ws:List (List UInt8)) (hws:words 32 X=ws) (hw:0<ws.length) (hwl:ws.length≤10000) (hx:∀ x ∈ ws,x.length≤10000) {P:VPost}
  (hgo:∀ l,allN numA ws.tail=some l→∀ fr st,Weak C fr st [(0,strV s),(2,.ptr 0 0),(4,.ptr 1 0),(21,.ref 2 0 ls.length ls.length),(22,.sc (.int .i64 ls.length)),(23,.sc (.int .i64 ((i:Int)+1)))] ⟨parH ls S (N++ [ws[0]!]) (M++ [l]),5,0⟩→P .normal fr st)
  (hstop:allN numA ws.tail=none→∀ fr st,st.ro=0→aget st.own 0=some (.box 25 1 [.sc (.slice none 0 0),.sc (.slice none 0 0),.sc (.slice none 0 0)])→aget fr 2=some (.ptr 0 0)→aget fr 3=some (.sc (.int .i64 12))→P .ret fr st):
  gC C c12l1 [] [(0,strV s),(2,.ptr 0 0),(4,.ptr 1 0),(21,.ref 2 0 ls.length ls.length),(22,.sc (.int .i64 ls.length)),(23,.sc (.int .i64 i))] ⟨parH ls S N M,5,0⟩ P:=by
 have hlm:(ls.map sD).length=ls.length:=by rw[List.length_map]
 have hwm:(ws.map sD).length=ws.length:=by rw[List.length_map]
 have hi1:¬ ((i:Int)=0):=by omega
 have hsp:=split_p w (n+1) X 32 (by omega)
 rw[hws] at hsp
 simp (disch:=first|omega|assumption|exact bd (by with_unfolding_all rfl)|exact Or.inl rfl|exact Or.inl trivial|exact okL_map _ (fun _=>rfl) _|(simp only[VVlen]<;>omega)|fail) only[O1,WA,slotsL,opdsA,Nat.reduceEqDiff,Nat.reduceLT,Nat.reduceAdd,Nat.reduceBEq,Int.reduceAdd,Int.reduceSub,Int.reduceLT,Int.reduceLE,Int.reduceEq,Int.reduceNeg,↓reduceIte,reduceCtorEq,List.replicate,c12l1,sD_dv,hX,hi1]
 all_goals try (exfalso;omega)
 refine callV_of (by rw[hC];exact hsp) rfl rfl rfl ?_
 simp (disch:=first|omega|assumption|exact bd (by with_unfolding_all rfl)|exact Or.inl rfl|exact Or.inl trivial|exact okL_map _ (fun _=>rfl) _|(simp only[VVlen]<;>omega)|fail) only[O1,WA,slotsL,opdsA,Nat.reduceEqDiff,Nat.reduceLT,Nat.reduceAdd,Nat.reduceBEq,Int.reduceAdd,Int.reduceSub,Int.reduceLT,Int.reduceLE,Int.reduceEq,Int.reduceNeg,↓reduceIte,reduceCtorEq,List.replicate,vsh,vshL,shH,shO,fzSL,fzS,hi1,vslc_loR,Nat.mul_one]
 all_goals try (exfalso;omega)
 have hf0:fillI [] ws.length=List.replicate ws.length (D.sc (.int .i64 0)):=by simp[fillI]
 have hnw:=fun K P=>nums_walk (K:=K) (P:=P) w n hC h0 hes her s ls S N M i ws hw hwl hx
 rw[hf0] at hnw
 refine hnw _ _ (fun l hl=>?_) (fun hno fr st h1 h2 h3 h4=>?_)
 ·change gC C (.drawW _ _ _) _ _ _ _
  have hll:=allN_len hl
  rw[List.length_tail] at hll
  have hflen:=fillI_len l ws.length (by omega)
  refine gC_drawW_weak (weak_snap (t:=8) (v':= .sl 0 l.length (l.map iD)) rfl ?_ rfl) ?_
  ·show (toD _ (.ref 6 0 l.length ws.length)).map dv=_
   have:∀ (H:VHp),aget H 6=some (.row 3 1 false false (fillI l ws.length))→toD H (.ref 6 0 l.length ws.length)=some (rowI 0 l):=by
    intro H hH
    simp only[toD,hH]
    rw[if_pos (by omega),Nat.mul_one,List.drop_zero,fillI_take]
    rfl
   rw[this _ rfl]
   rfl
  change gC C (.drawW _ _ _) _ _ ⟨(6,.row 3 1 false true (fillI l ws.length))::(5,.row 9 1 false false (ws.map sD))::parH ls S N M,7,0⟩ _
  by_cases hz:N.length=0
  ·have hN0:=List.eq_nil_of_length_eq_zero hz
   have hM0:=List.eq_nil_of_length_eq_zero (hNM.trans hz)
   subst hN0 hM0
   repeat' (first|(simp (disch:=first|omega|assumption|exact bd (by with_unfolding_all rfl)|exact Or.inl rfl|exact Or.inl trivial|exact okL_map _ (fun _=>rfl) _|(simp only[VVlen]<;>omega)|fail) only[O1,WA,slotsL,opdsA,Nat.reduceEqDiff,Nat.reduceLT,Nat.reduceAdd,Nat.reduceBEq,Int.reduceAdd,Int.reduceSub,Int.reduceLT,Int.reduceLE,Int.reduceEq,Int.reduceNeg,↓reduceIte,reduceCtorEq,List.replicate,vd_app,dAppX_gr0,dAppX_gr,dAppN_ref,dAppNO_one,dApp_gr,dAppO_one,vrc_okA,vrc_okB,subL,sD_dv,List.length_nil])|apply gC_drawW|((first|apply gI_dec|apply gG_dec|apply gPG_dec|apply gI_var|apply gG_var|apply gPG_var)<;>intro _))
   all_goals try (exfalso;omega)
   exact hgo l hl _ _ (weak_toB [(10,4),(8,3),(2,2),(1,1),(0,0)] 5 (by rw[h0];exact Nat.zero_le _) rfl (by rw[h0];rfl) rfl rfl)
  ·have hzM:M.length ≠ 0:=by omega
   have hNl:(N.map sD).length=N.length:=by rw[List.length_map]
   have hMl:(M.map (rowI 0)).length=M.length:=by rw[List.length_map]
   repeat' (first|(simp (disch:=first|omega|assumption|exact bd (by with_unfolding_all rfl)|exact Or.inl rfl|exact Or.inl trivial|exact okL_map _ (fun _=>rfl) _|(simp only[VVlen]<;>omega)|fail) only[O1,WA,slotsL,opdsA,Nat.reduceEqDiff,Nat.reduceLT,Nat.reduceAdd,Nat.reduceBEq,Int.reduceAdd,Int.reduceSub,Int.reduceLT,Int.reduceLE,Int.reduceEq,Int.reduceNeg,↓reduceIte,reduceCtorEq,List.replicate,vd_app,dAppX_gr0,dAppX_gr,dAppN_ref,dAppNO_one,dApp_gr,dAppO_one,vrc_okA,vrc_okB,subL,sD_dv])|apply gC_drawW|((first|apply gI_dec|apply gG_dec|apply gPG_dec|apply gI_var|apply gG_var|apply gPG_var)<;>intro _))
   all_goals try (exfalso;omega)
   refine hgo l hl _ _ (weak_toB [(10,4),(8,3),(2,2),(1,1),(0,0)] 5 (by rw[h0];exact Nat.zero_le _) rfl (by rw[h0];rfl) rfl ?_)
   unfold parH
   rw[List.map_append,List.map_append,List.length_append,List.length_append,List.length_singleton,List.length_singleton]
   rfl
 ·exact hstop hno fr st h1 h2 h3 h4
end
end Go.Proofs.YteibgbbfcjgjiaaDoor
namespace Go.Proofs.YteibgbbfcjgjiaaDoor
open Go Go.Itp
set_option maxRecDepth 100000
set_option maxHeartbeats 2000000
set_option linter.unusedSimpArgs false
set_option linter.unusedVariables false
section
variable {C:Ctx} {st:VSt} {fr:VFr}
theorem same_fzK {o k n c t:Nat} {g:Bool} {l:List D} (ho:aget st.own o=some (.row t 1 g true l)) (hl:k+n≤l.length):VSame C st (.ref o k n c) (.sl 0 n ((l.drop k).take n)):=by
 intro s μ F u h1 hv
 have hs:snapV st.own (.ref o k n c)=some (.sl 0 n ((l.drop k).take n)):=by
  show (toD _ _).map dv=_
  simp only[toD,ho]
  rw[if_pos (by omega),Nat.mul_one]
  rfl
 refine snap_ok (w:=wof C st s μ F) (w1:=wof C st s μ F) h1.hr (VW.le.refl _) rfl rfl hv hs (fun j hj b e=>?_) (fun j hj b e k sp blk hb=>aload_blk (E:=C.E) hb)
 simp only[fzS,List.mem_singleton] at hj
 subst hj
 exact h1.fz j _ b ho e rfl
theorem weak_snapK {o g k0 n c t t' e k:Nat} {gg:Bool} {l:List V} {q:List D} (ho:aget st.own o=some (.box t e l)) (hk:l[k]? =some (.ref g k0 n c)) (hg:aget st.own g=some (.row t' 1 gg false q)) (hq:k0+n≤q.length) (hrow:rowsB st.ro st.own [g]=true):
  Weak C fr st fr ⟨aset (frozA [g] st.own) o (.box t e (l.set k (.sl 0 n ((q.drop k0).take n)))),st.next,st.ro⟩:=by
 have h1:aget (frozA [g] st.own) g=some (.row t' 1 gg true q):=by
  have:elemB g [g]=true:=(elemB_iff _ _).2 (by simp)
  rw[frozA_get,hg,Option.map_some,if_pos this]
  rfl
 have hog:o ≠ g:=fun h=>by rw[h,hg] at ho;cases ho
 have h2:aget (frozA [g] st.own) o=some (.box t e l):=by
  have:¬ elemB o [g]=true:=fun h=>hog (by simpa using (elemB_iff _ _).1 h)
  rw[frozA_get,ho,Option.map_some,if_neg this]
 refine (weak_freeze hrow).trans ?_
 exact weak_cell (st:=⟨frozA [g] st.own,st.next,st.ro⟩) h2 hk (same_fzK h1 hq)
end
section
variable (w:World) (n:Nat)
abbrev par0 (ls:List (List UInt8)):VHp:=
 [(4,.gro 40 1 false []),(3,.gro 9 1 false []),(2,.row 9 1 false false (ls.map sD)),(1,.box 25 1 [.sc (.slice none 0 0),.gr 2 3 0,.gr 2 4 0]),(0,.box 25 1 [.sc (.slice none 0 0),.sc (.slice none 0 0),.sc (.slice none 0 0)])]
theorem head_round {C:Ctx} (hC:C.E=EN w (n+7)) (h0:C.w0.nx=0) (s:List UInt8) (ls:List (List UInt8)) (hil:0<ls.length) (hls:ls.length≤10000) (X:List UInt8) (hX:ls[0]! =X) (hXl:X.length≤8000) (ws:List (List UInt8)) (hws:words 32 X=ws) (hw:0<ws.length) (hwl:ws.length≤10000) {P:VPost}
  (hgo:∀ fr st,Weak C fr st [(0,strV s),(2,.ptr 0 0),(4,.ptr 1 0),(21,.ref 2 0 ls.length ls.length),(22,.sc (.int .i64 ls.length)),(23,.sc (.int .i64 1))] ⟨parH ls ws.tail [] [],5,0⟩→P .normal fr st):
  gC C c12l1 [] [(0,strV s),(2,.ptr 0 0),(4,.ptr 1 0),(21,.ref 2 0 ls.length ls.length),(22,.sc (.int .i64 ls.length)),(23,.sc (.int .i64 0))] ⟨par0 ls,5,0⟩ P:=by
 have hlm:(ls.map sD).length=ls.length:=by rw[List.length_map]
 have hwm:(ws.map sD).length=ws.length:=by rw[List.length_map]
 have hX0:ls[Int.toNat 0]! =X:=hX
 have hsp:=split_p w (n+1) X 32 (by omega)
 rw[hws] at hsp
 simp (disch:=first|omega|assumption|exact bd (by with_unfolding_all rfl)|exact Or.inl rfl|exact Or.inl trivial|exact okL_map _ (fun _=>rfl) _|(simp only[VVlen]<;>omega)|fail) only[O1,WA,slotsL,opdsA,Nat.reduceEqDiff,Nat.reduceLT,Nat.reduceAdd,Nat.reduceBEq,Int.reduceAdd,Int.reduceSub,Int.reduceLT,Int.reduceLE,Int.reduceEq,Int.reduceNeg,↓reduceIte,reduceCtorEq,List.replicate,c12l1,sD_dv,hX,hX0]
 all_goals try (exfalso;omega)
 refine callV_of (by rw[hC];exact hsp) rfl rfl rfl ?_
 simp (disch:=first|omega|assumption|exact bd (by with_unfolding_all rfl)|exact Or.inl rfl|exact Or.inl trivial|exact okL_map _ (fun _=>rfl) _|(simp only[VVlen]<;>omega)|fail) only[O1,WA,slotsL,opdsA,Nat.reduceEqDiff,Nat.reduceLT,Nat.reduceAdd,Nat.reduceBEq,Int.reduceAdd,Int.reduceSub,Int.reduceLT,Int.reduceLE,Int.reduceEq,Int.reduceNeg,↓reduceIte,reduceCtorEq,List.replicate,vsh,vshL,shH,shO,fzSL,fzS,vslc_loR,Nat.mul_one]
 all_goals try (exfalso;omega)
 refine hgo _ _ ((weak_snapK (o:=1) (g:=5) (k:=0) rfl rfl rfl (by split<;>omega) rfl).trans (weak_toB [(4,4),(3,3),(2,2),(1,1),(0,0)] 5 (by rw[h0];exact Nat.zero_le _) rfl (by rw[h0];rfl) rfl ?_))
 have e:(List.drop (if ws.length=1 then 0 else 1) (ws.map sD)).take (ws.length - 1)=ws.tail.map sD:=by
  match ws,hw with
  | [a],_=>rfl
  |a::b::r,_=>simp;rw[List.take_of_length_le (by simp)]
 rw[e]
 show _=(⟨parH ls ws.tail [] [],5,0⟩:VSt)
 unfold parH strs
 rw[List.length_tail]
 rfl
theorem rowL_snoc (f:List UInt8→Option Int):∀ (a:List (List UInt8)) (N:List (List UInt8)) (M:List (List Int)) (r:List (List UInt8)),rowL f a=some (N,M)→rowL f (a++r)=(rowL f r).map (fun p=>(N++p.1,M++p.2))
 | [],N,M,r,h=>by
  simp only[rowL,Option.some.injEq,Prod.mk.injEq] at h
  obtain ⟨rfl,rfl⟩:=h
  simp
 |x::a,N,M,r,h=>by
  simp only[rowL,Option.bind_eq_some_iff,Option.map_eq_some_iff,Prod.mk.injEq] at h
  obtain ⟨l,h1,⟨N',M'⟩,h2,rfl,rfl⟩:=h
  simp only[List.cons_append,rowL,h1,Option.bind_some,rowL_snoc f a N' M' r h2]
  cases rowL f r<;>rfl
theorem rowL_len {f:List UInt8→Option Int}:∀ {a:List (List UInt8)} {N:List (List UInt8)} {M:List (List Int)},rowL f a=some (N,M)→N.length=a.length∧M.length=a.length
 | [],N,M,h=>by
  simp only[rowL,Option.some.injEq,Prod.mk.injEq] at h
  obtain ⟨rfl,rfl⟩:=h
  exact ⟨rfl,rfl⟩
 |x::a,N,M,h=>by
  simp only[rowL,Option.bind_eq_some_iff,Option.map_eq_some_iff,Prod.mk.injEq] at h
  obtain ⟨l,h1,⟨N',M'⟩,h2,rfl,rfl⟩:=h
  have:=rowL_len h2
  simp[this.1,this.2]
end
end Go.Proofs.YteibgbbfcjgjiaaDoor
namespace Go.Proofs.YteibgbbfcjgjiaaDoor
open Go Go.Itp
set_option maxRecDepth 100000
set_option maxHeartbeats 2000000
set_option linter.unusedSimpArgs false
set_option linter.unusedVariables false
section
variable (w:World) (n:Nat)
theorem lines_walk {C:Ctx} (hC:C.E=EN w (n+7)) (h0:C.w0.nx=0) (hes:(errO Tryd.prog w "strconv.ErrSyntax").isSome=true) (her:(errO Tryd.prog w "strconv.ErrRange").isSome=true) (s:List UInt8) (ls:List (List UInt8)) (hl0:0<ls.length) (hls:ls.length≤10000) (hll:∀ x ∈ ls,x.length≤8000) {K:List KF} {P:VPost}
  (hgo:∀ N M,rowL numA ls.tail=some (N,M)→gK C K (.exit 0) [(0,strV s),(2,.ptr 0 0),(4,.ptr 1 0),(21,.ref 2 0 ls.length ls.length),(22,.sc (.int .i64 ls.length)),(23,.sc (.int .i64 ls.length)),(24,.sc (.bool false))] ⟨parH ls (words 32 ls[0]!).tail N M,5,0⟩ P)
  (hstop:rowL numA ls.tail=none→∀ fr st,st.ro=0→aget st.own 0=some (.box 25 1 [.sc (.slice none 0 0),.sc (.slice none 0 0),.sc (.slice none 0 0)])→aget fr 2=some (.ptr 0 0)→aget fr 3=some (.sc (.int .i64 12))→gK C K .ret fr st P)
  {fr0:VFr} {st0:VSt} (hst:Weak C fr0 st0 [(0,strV s),(2,.ptr 0 0),(4,.ptr 1 0),(21,.ref 2 0 ls.length ls.length),(22,.sc (.int .i64 ls.length)),(23,.sc (.int .i64 0))] ⟨par0 ls,5,0⟩):
  gL C [0,2,4,21,22,23] c12l1 K fr0 st0 P:=by
 have hrn:C.E.rounds=many:=by rw[hC,callP_rounds]
 have htl:ls.tail.length=ls.length - 1:=by simp
 refine g_while (fun m fr st=>∃ k:Nat,m=ls.length - k∧k≤ls.length∧fr= [(0,strV s),(2,.ptr 0 0),(4,.ptr 1 0),(21,.ref 2 0 ls.length ls.length),(22,.sc (.int .i64 ls.length)),(23,.sc (.int .i64 (k:Int)))]∧
  ((k=0∧st=⟨par0 ls,5,0⟩)∨(0<k∧∃ N M,rowL numA (ls.tail.take (k - 1))=some (N,M)∧st=⟨parH ls (words 32 ls[0]!).tail N M,5,0⟩))) ls.length ?_ ⟨_,_,hst,0,by omega,Nat.zero_le _,rfl,.inl ⟨rfl,rfl⟩⟩ ?_
 ·rw[hrn];unfold many;omega
 rintro m fr st ⟨k,rfl,hk,rfl,hcase⟩
 have hwords:∀ x ∈ ls,0<(words 32 x).length∧(words 32 x).length≤10000∧∀ y ∈ words 32 x,y.length≤10000:=fun x hx=>by
  have hb:=hll x hx
  have hwl:=Go.Itp.words_len (c:=32) x.length (s:=x) (Nat.le_refl _)
  exact ⟨List.length_pos_iff.2 (words_ne 32 x),by omega,fun y hy=>by have:=hwl.2 y hy;omega⟩
 rcases hcase with ⟨rfl,rfl⟩|⟨hk0,N,M,hr,rfl⟩
 ·have hm:ls[0]! ∈ ls:=by rw[getElem!_pos ls 0 hl0];exact List.getElem_mem _
  obtain ⟨a1,a2,a3⟩:=hwords _ hm
  refine head_round w n hC h0 s ls hl0 hls _ rfl (hll _ hm) _ rfl a1 a2 fun fr st hw=>?_
  refine ⟨_,_,_,?_,hw,1,rfl,by omega,rfl,.inr ⟨by omega,[],[],rfl,rfl⟩⟩
  omega
 ·have hrl:=rowL_len hr
  rw[List.length_take,htl,Nat.min_eq_left (by omega)] at hrl
  by_cases hlt:k<ls.length
  case neg=>
   have:k=ls.length:=by omega
   subst this
   rw[List.take_of_length_le (by omega)] at hr
   have hgo:=hgo N M hr
   simp (disch:=first|omega|assumption|exact bd (by with_unfolding_all rfl)|exact Or.inl rfl|exact Or.inl trivial|exact okL_map _ (fun _=>rfl) _|(simp only[VVlen]<;>omega)|fail) only[O1,WA,slotsL,opdsA,Nat.reduceEqDiff,Nat.reduceLT,Nat.reduceAdd,Nat.reduceBEq,Int.reduceAdd,Int.reduceSub,Int.reduceLT,Int.reduceLE,Int.reduceEq,Int.reduceNeg,↓reduceIte,reduceCtorEq,List.replicate,c12l1]
   all_goals try (exfalso;omega)
   all_goals exact hgo
  have hm:ls[k]! ∈ ls:=by rw[getElem!_pos ls k hlt];exact List.getElem_mem _
  obtain ⟨a1,a2,a3⟩:=hwords _ hm
  have hjw:ls.tail[k - 1]! =ls[k]! :=by
   rw[getElem!_pos _ (k - 1) (by omega),getElem!_pos ls k (by omega)]
   simp only[List.getElem_tail]
   congr 1
   omega
  have htk:ls.tail.take k=ls.tail.take (k - 1)++ [ls[k]!]:=by
   have:=List.take_succ_eq_append_getElem (l:=ls.tail) (i:=k - 1) (by omega)
   rw[show k - 1+1=k by omega] at this
   rw[this,← getElem!_pos ls.tail (k - 1) (by omega),hjw]
  have hsplit:ls.tail=ls.tail.take (k - 1)++(ls[k]! ::ls.tail.drop k):=by
   have:=List.drop_eq_getElem_cons (l:=ls.tail) (i:=k - 1) (by omega)
   rw[show k - 1+1=k by omega,← getElem!_pos ls.tail (k - 1) (by omega),hjw] at this
   rw[← this,List.take_append_drop]
  refine row_round w n hC h0 hes her s ls _ N M k hk0 hlt hls (by omega) (by omega) _ rfl (hll _ hm) _ rfl a1 a2 a3 (fun l hl fr st hw=>?_) (fun hno fr st h1 h2 h3 h4=>?_)
  ·refine ⟨_,_,_,?_,hw,k+1,rfl,by omega,rfl,.inr ⟨by omega,N++ [(words 32 ls[k]!)[0]!],M++ [l],?_,rfl⟩⟩
   ·omega
   ·rw[Nat.add_sub_cancel,htk,rowL_snoc _ _ _ _ _ hr,rowL,hl]
    rfl
  ·refine hstop ?_ fr st h1 h2 h3 h4
   rw[hsplit,rowL_snoc _ _ _ _ _ hr,rowL,hno]
   rfl
end
end Go.Proofs.YteibgbbfcjgjiaaDoor
namespace Go.Proofs.YteibgbbfcjgjiaaDoor
open Go Go.Itp
set_option maxRecDepth 100000
set_option maxHeartbeats 2000000
set_option linter.unusedSimpArgs false
set_option linter.unusedVariables false
theorem rowL_mod {f:List UInt8→Option Int} (B:Nat):∀ {a:List (List UInt8)} {N:List (List UInt8)} {M:List (List Int)},(∀ x ∈ a,x.length≤B)→rowL f a=some (N,M)→(∀ y ∈ N,y.length≤B)∧∀ m ∈ M,m.length≤B
 | [],N,M,_,h=>by
  simp only[rowL,Option.some.injEq,Prod.mk.injEq] at h
  obtain ⟨rfl,rfl⟩:=h
  exact ⟨fun y hy=>(by cases hy),fun m hm=>(by cases hm)⟩
 |x::a,N,M,hB,h=>by
  simp only[rowL,Option.bind_eq_some_iff,Option.map_eq_some_iff,Prod.mk.injEq] at h
  obtain ⟨l,h1,⟨N',M'⟩,h2,rfl,rfl⟩:=h
  have ih:=rowL_mod B (fun y hy=>hB y (List.mem_cons_of_mem _ hy)) h2
  have hx:=Go.Itp.words_len (c:=32) x.length (s:=x) (Nat.le_refl _)
  have hxB:=hB x List.mem_cons_self
  have hne:=List.length_pos_iff.2 (words_ne 32 x)
  have hl:=allN_len h1
  rw[List.length_tail] at hl
  constructor
  ·intro y hy
   rcases List.mem_cons.1 hy with rfl|hy
   ·rw[getElem!_pos _ 0 hne]
    have:=hx.2 _ (List.getElem_mem hne)
    omega
   ·exact ih.1 y hy
  ·intro m hm
   rcases List.mem_cons.1 hm with rfl|hm
   ·omega
   ·exact ih.2 m hm
section
variable (w:World) (n:Nat)
theorem parse_walk {C:Ctx} (hC:C.E=EN w (n+7)) (h0:C.w0.nx=0) (hes:(errO Tryd.prog w "strconv.ErrSyntax").isSome=true) (her:(errO Tryd.prog w "strconv.ErrRange").isSome=true) (s:List UInt8) (hs:s.length≤100000) {P:VPost}
  (hno:accF (rawP s) s=none→∀ fr st,st.ro=0→aget st.own 0=some (.box 25 1 [.sc (.slice none 0 0),.sc (.slice none 0 0),.sc (.slice none 0 0)])→aget fr 2=some (.ptr 0 0)→aget fr 3=some (.sc (.int .i64 12))→P .ret fr st)
  (hyes:∀ S N M,accF (rawP s) s=some (S,N,M)→∀ fr st,st.ro=0→aget st.own 0=some (.box 25 1 [strs 0 S,.gr 2 3 N.length,.gr 2 4 M.length])→aget st.own 3=some (.gro 9 1 false (N.map sD))→aget st.own 4=some (.gro 40 1 false (M.map (rowI 0)))→aget fr 2=some (.ptr 0 0)→aget fr 3=some (.sc (.int .i64 0))→P .ret fr st):
  gC C c12.code [] [(0,strV s)] ⟨[],0,0⟩ P:=by
 have hsz:(⟨s.toArray⟩:ByteArray).size=s.length:=by simp[ByteArray.size]
 by_cases hbig:8000<s.length
 ·have ha:accF (rawP s) s=none:=by
   have hb:¬ s.length≤8000:=by omega
   unfold accF
   cases rawP s<;>simp[hb]
  simp (disch:=first|omega|assumption|exact bd (by with_unfolding_all rfl)|exact Or.inl rfl|exact Or.inl trivial|exact okL_map _ (fun _=>rfl) _|(simp only[VVlen]<;>omega)|fail) only[O1,WA,slotsL,opdsA,Nat.reduceEqDiff,Nat.reduceLT,Nat.reduceAdd,Nat.reduceBEq,Int.reduceAdd,Int.reduceSub,Int.reduceLT,Int.reduceLE,Int.reduceEq,Int.reduceNeg,↓reduceIte,reduceCtorEq,List.replicate,c12,hsz]
  all_goals try (exfalso;omega)
  exact hno ha _ _ rfl rfl rfl rfl
 have htr:=(trim_p w (n+4) s (by omega)).of hC rfl
 have htl:(trimS s).length≤8000:=by unfold trimS;split<;>(try simp)<;>omega
 have hsp:=split_p w (n+1) (trimS s) 10 (by omega)
 have hwl:=Go.Itp.words_len (c:=10) (trimS s).length (s:=trimS s) (Nat.le_refl _)
 have hw0:=List.length_pos_iff.2 (words_ne 10 (trimS s))
 have hraw:rawP s=(rowL numA (words 10 (trimS s)).tail).map fun p=>((words 32 (words 10 (trimS s))[0]!).tail,p.1,p.2):=rfl
 generalize words 10 (trimS s)=ls at*
 simp (disch:=first|omega|assumption|exact bd (by with_unfolding_all rfl)|exact Or.inl rfl|exact Or.inl trivial|exact okL_map _ (fun _=>rfl) _|(simp only[VVlen]<;>omega)|fail) only[O1,WA,slotsL,opdsA,Nat.reduceEqDiff,Nat.reduceLT,Nat.reduceAdd,Nat.reduceBEq,Int.reduceAdd,Int.reduceSub,Int.reduceLT,Int.reduceLE,Int.reduceEq,Int.reduceNeg,↓reduceIte,reduceCtorEq,List.replicate,c12,hsz]
 all_goals try (exfalso;omega)
 refine callV_flat (htr _ rfl) ?_
 repeat' (first|(simp (disch:=first|omega|assumption|exact bd (by with_unfolding_all rfl)|exact Or.inl rfl|exact Or.inl trivial|exact okL_map _ (fun _=>rfl) _|(simp only[VVlen]<;>omega)|fail) only[O1,WA,slotsL,opdsA,Nat.reduceEqDiff,Nat.reduceLT,Nat.reduceAdd,Nat.reduceBEq,Int.reduceAdd,Int.reduceSub,Int.reduceLT,Int.reduceLE,Int.reduceEq,Int.reduceNeg,↓reduceIte,reduceCtorEq,List.replicate])|apply gC_drawW|((first|apply gI_dec|apply gG_dec|apply gPG_dec|apply gI_var|apply gG_var|apply gPG_var)<;>intro _))
 refine callV_of (by rw[hC];exact hsp) rfl rfl rfl ?_
 simp (disch:=first|omega|assumption|exact bd (by with_unfolding_all rfl)|exact Or.inl rfl|exact Or.inl trivial|exact okL_map _ (fun _=>rfl) _|(simp only[VVlen]<;>omega)|fail) only[O1,WA,slotsL,opdsA,Nat.reduceEqDiff,Nat.reduceLT,Nat.reduceAdd,Nat.reduceBEq,Int.reduceAdd,Int.reduceSub,Int.reduceLT,Int.reduceLE,Int.reduceEq,Int.reduceNeg,↓reduceIte,reduceCtorEq,List.replicate,vsh,vshL,shH,shO,fzSL,fzS]
 all_goals try (exfalso;omega)
 have hst:∀ fr:VFr,Weak C fr ⟨[(2,.row 9 1 false false (ls.map sD)),(1,.box 25 1 [.sc (.slice none 0 0),.sc (.slice none 0 0),.sc (.slice none 0 0)]),(0,.box 25 1 [.sc (.slice none 0 0),.sc (.slice none 0 0),.sc (.slice none 0 0)])],3,0⟩ fr ⟨par0 ls,5,0⟩:=fun fr=>
  have h1:Weak C fr ⟨[(2,.row 9 1 false false (ls.map sD)),(1,.box 25 1 [.sc (.slice none 0 0),.sc (.slice none 0 0),.sc (.slice none 0 0)]),(0,.box 25 1 [.sc (.slice none 0 0),.sc (.slice none 0 0),.sc (.slice none 0 0)])],3,0⟩ fr ⟨[(3,.gro 9 1 false []),(2,.row 9 1 false false (ls.map sD)),(1,.box 25 1 [.sc (.slice none 0 0),.gr 2 3 0,.sc (.slice none 0 0)]),(0,.box 25 1 [.sc (.slice none 0 0),.sc (.slice none 0 0),.sc (.slice none 0 0)])],4,0⟩:=weak_nilCell (l:= [.sc (.slice none 0 0),.sc (.slice none 0 0),.sc (.slice none 0 0)]) 1 25 1 1 9 1 rfl rfl (show (1:Nat) ≠ 3 from by decide)
  have h2:Weak C fr ⟨[(3,.gro 9 1 false []),(2,.row 9 1 false false (ls.map sD)),(1,.box 25 1 [.sc (.slice none 0 0),.gr 2 3 0,.sc (.slice none 0 0)]),(0,.box 25 1 [.sc (.slice none 0 0),.sc (.slice none 0 0),.sc (.slice none 0 0)])],4,0⟩ fr ⟨[(4,.gro 40 1 false []),(3,.gro 9 1 false []),(2,.row 9 1 false false (ls.map sD)),(1,.box 25 1 [.sc (.slice none 0 0),.gr 2 3 0,.gr 2 4 0]),(0,.box 25 1 [.sc (.slice none 0 0),.sc (.slice none 0 0),.sc (.slice none 0 0)])],5,0⟩:=weak_nilCell (st:=⟨[(3,.gro 9 1 false []),(2,.row 9 1 false false (ls.map sD)),(1,.box 25 1 [.sc (.slice none 0 0),.gr 2 3 0,.sc (.slice none 0 0)]),(0,.box 25 1 [.sc (.slice none 0 0),.sc (.slice none 0 0),.sc (.slice none 0 0)])],4,0⟩) (l:= [.sc (.slice none 0 0),.gr 2 3 0,.sc (.slice none 0 0)]) 1 25 1 2 40 1 rfl rfl (show (1:Nat) ≠ 4 from by decide)
  h1.trans h2
 refine lines_walk w n hC h0 hes her s ls hw0 (by omega) (fun x hx=>by have:=hwl.2 x hx;omega) (fun N M hr=>?_) (fun hr fr st h1 h2 h3 h4=>?_) (hst _)
 ·rw[hr,Option.map_some] at hraw
  have hmod:Mod (words 32 ls[0]!).tail N M:=by
   have hlb:∀ x ∈ ls,x.length≤8000:=fun x hx=>by have:=hwl.2 x hx;omega
   have hb:=rowL_mod 8000 (fun x hx=>hlb x (List.mem_of_mem_tail hx)) hr
   have hm:ls[0]! ∈ ls:=by rw[getElem!_pos ls 0 hw0];exact List.getElem_mem _
   have hx:=Go.Itp.words_len (c:=32) (ls[0]!).length (s:=ls[0]!) (Nat.le_refl _)
   have hx0:=hlb _ hm
   have hrl:=rowL_len hr
   rw[List.length_tail] at hrl
   refine ⟨by rw[List.length_tail];omega,by omega,by omega,fun j hj=>?_,fun j hj=>?_,fun j hj=>?_⟩
   ·rw[getElem!_pos _ j hj]
    have:=hx.2 _ (List.mem_of_mem_tail (List.getElem_mem hj))
    omega
   ·rw[getElem!_pos _ j hj]
    have:=hb.1 _ (List.getElem_mem hj)
    omega
   ·rw[getElem!_pos _ j hj]
    have:=hb.2 _ (List.getElem_mem hj)
    omega
  generalize (words 32 ls[0]!).tail=S at*
  have htx:∀ (st:VSt) (xs:List V),snapL st.own xs=some [tableV 0 2 2 0 S N M]→VSpecO C.E 10 st xs (.tup [strV (textF (S,N,M)).1,.sc (.int .i64 (textF (S,N,M)).2)]):=fun st xs h=>by rw[hC];exact (textB_p w (n+2) 0 2 2 0 (by decide) (S,N,M) hmod).flat rfl h
  have hsn:snapL (parH ls S N M) [.agg [strs 0 S,.gr 2 3 N.length,.gr 2 4 M.length]]=some [tableV 0 2 2 0 S N M]:=by
   have e3:snapV (parH ls S N M) (.gr 2 3 N.length)=some (strs 2 N):=snap_grD (t:=9) (z:=false) rfl (by simp)
   have e4:snapV (parH ls S N M) (.gr 2 4 M.length)=some (rowsV 2 0 M):=snap_grD (t:=40) (z:=false) rfl (by simp)
   simp only[snapL,snapV] at e3 e4 ⊢
   simp only[e3,e4,Option.bind_some,Option.map_some]
  simp (disch:=first|omega|assumption|exact bd (by with_unfolding_all rfl)|exact Or.inl rfl|exact Or.inl trivial|exact okL_map _ (fun _=>rfl) _|(simp only[VVlen]<;>omega)|fail) only[O1,WA,slotsL,opdsA,Nat.reduceEqDiff,Nat.reduceLT,Nat.reduceAdd,Nat.reduceBEq,Int.reduceAdd,Int.reduceSub,Int.reduceLT,Int.reduceLE,Int.reduceEq,Int.reduceNeg,↓reduceIte,reduceCtorEq,List.replicate]
  refine callV_flat (htx _ _ hsn) ?_
  by_cases hz:(textF (S,N,M)).2=0
  ·by_cases ht:(textF (S,N,M)).1=s
   ·have hacc:accF (rawP s) s=some (S,N,M):=by
     unfold accF
     rw[hraw,Option.bind_some,if_pos ⟨by omega,Prod.ext ht hz⟩]
    have hy:=hyes S N M hacc
    simp (disch:=first|omega|assumption|exact bd (by with_unfolding_all rfl)|exact Or.inl rfl|exact Or.inl trivial|exact okL_map _ (fun _=>rfl) _|(simp only[VVlen]<;>omega)|fail) only[O1,WA,slotsL,opdsA,Nat.reduceEqDiff,Nat.reduceLT,Nat.reduceAdd,Nat.reduceBEq,Int.reduceAdd,Int.reduceSub,Int.reduceLT,Int.reduceLE,Int.reduceEq,Int.reduceNeg,↓reduceIte,reduceCtorEq,List.replicate,hz,ht]
    all_goals try (exfalso;omega)
    all_goals exact hy _ _ rfl rfl rfl rfl rfl rfl
   ·have hacc:accF (rawP s) s=none:=by
     unfold accF
     rw[hraw,Option.bind_some,if_neg (fun h=>ht (by rw[h.2]))]
    have hn:=hno hacc
    repeat' (first|(simp (disch:=first|omega|assumption|exact bd (by with_unfolding_all rfl)|exact Or.inl rfl|exact Or.inl trivial|exact okL_map _ (fun _=>rfl) _|(simp only[VVlen]<;>omega)|fail) only[O1,WA,slotsL,opdsA,Nat.reduceEqDiff,Nat.reduceLT,Nat.reduceAdd,Nat.reduceBEq,Int.reduceAdd,Int.reduceSub,Int.reduceLT,Int.reduceLE,Int.reduceEq,Int.reduceNeg,↓reduceIte,reduceCtorEq,List.replicate,hz,ht])|apply gC_drawW|((first|apply gI_dec|apply gG_dec|apply gPG_dec|apply gI_var|apply gG_var|apply gPG_var)<;>intro _))
    all_goals try (exfalso;omega)
    all_goals try exact hn _ _ rfl rfl rfl rfl
    all_goals
     rename_i hh
     exact absurd (by have:=congrArg (fun b:ByteArray=>b.data.toList) (Classical.not_not.1 hh);simpa using this) ht
  ·have hacc:accF (rawP s) s=none:=by
    unfold accF
    rw[hraw,Option.bind_some,if_neg (fun h=>hz (by rw[h.2]))]
   have hn:=hno hacc
   simp (disch:=first|omega|assumption|exact bd (by with_unfolding_all rfl)|exact Or.inl rfl|exact Or.inl trivial|exact okL_map _ (fun _=>rfl) _|(simp only[VVlen]<;>omega)|fail) only[O1,WA,slotsL,opdsA,Nat.reduceEqDiff,Nat.reduceLT,Nat.reduceAdd,Nat.reduceBEq,Int.reduceAdd,Int.reduceSub,Int.reduceLT,Int.reduceLE,Int.reduceEq,Int.reduceNeg,↓reduceIte,reduceCtorEq,List.replicate,hz]
   all_goals try (exfalso;omega)
   all_goals exact hn _ _ rfl rfl rfl rfl
 ·refine hno ?_ fr st h1 h2 h3 h4
  rw[hraw,hr]
  rfl
end
end Go.Proofs.YteibgbbfcjgjiaaDoor
namespace Go.Proofs.YteibgbbfcjgjiaaDoor
open Go Go.Itp
set_option maxRecDepth 100000
set_option maxHeartbeats 2000000
set_option linter.unusedSimpArgs false
set_option linter.unusedVariables false
def parseV:Option Tb→V
 |some t=> .tup [tableV 0 2 2 0 t.1 t.2.1 t.2.2,.sc (.int .i64 0)]
 |none=> .tup [.agg [.sc (.slice none 0 0),.sc (.slice none 0 0),.sc (.slice none 0 0)],.sc (.int .i64 12)]
theorem retOK_parse (r:Option Tb):RetOK [] (parseV r):=by
 cases r with
 |none=>exact retOK_nil (by simp only[parseV,Cl,ClL,and_true])
 |some t=>exact retOK_nil (by simp only[parseV,Cl,ClL,and_true];exact ⟨rfl,rfl,rfl⟩)
section
variable (w:World) (n:Nat)
theorem parse_p (hes:(errO Tryd.prog w "strconv.ErrSyntax").isSome=true) (her:(errO Tryd.prog w "strconv.ErrRange").isSome=true) (s:List UInt8) (hs:s.length≤100000):VSpec (EN w (n+8)) 12 [strV s] (parseV (accF (rawP s) s)) ⟨[],0,0⟩:=by
 refine vspec_g rfl rfl (fun _ _=>rfl) (Nat.le_of_ble_eq_true rfl) (oldVals w) (retOK_parse _) rfl fun C hC h0=>?_
 refine parse_walk w n hC h0 hes her s hs (fun ha fr st hro h1 h2 h3=>?_) (fun S N M ha fr st hro h1 h3 h4 h5 h6=>?_)
 ·rw[ha]
  have hv:vresOf C fr st [(2,some (some 3)),(3,none)]=some [.agg [.sc (.slice none 0 0),.sc (.slice none 0 0),.sc (.slice none 0 0)],.sc (.int .i64 12)]:=by
   simp only[vresOf,h2,h3,Option.bind_some,vload,h1]
   rfl
  exact ⟨_,hv,weak_to [] 0 h0 hro rfl rfl rfl⟩
 ·rw[ha]
  have hv:vresOf C fr st [(2,some (some 3)),(3,none)]=some [.agg [strs 0 S,.gr 2 3 N.length,.gr 2 4 M.length],.sc (.int .i64 0)]:=by
   simp only[vresOf,h5,h6,Option.bind_some,vload,h1]
   rfl
  have e3:snapV st.own (.gr 2 3 N.length)=some (strs 2 N):=snap_grD h3 (by simp)
  have e4:snapV st.own (.gr 2 4 M.length)=some (rowsV 2 0 M):=snap_grD h4 (by simp)
  have hsn:snapV st.own (.tup [.agg [strs 0 S,.gr 2 3 N.length,.gr 2 4 M.length],.sc (.int .i64 0)])=some (parseV (some (S,N,M))):=by
   simp only[snapL,snapV] at e3 e4 ⊢
   simp only[e3,e4,Option.bind_some,Option.map_some]
   rfl
  refine ⟨_,hv,(weak_snap (t:=0) rfl hsn ?_).trans (weak_to [] 0 h0 hro rfl rfl rfl)⟩
  show rowsB st.ro st.own [3,4]=true
  simp[rowsB,h3,h4,hro]
end
end Go.Proofs.YteibgbbfcjgjiaaDoor
namespace Go.Proofs.YteibgbbfcjgjiaaDoor
open Go Go.Itp
set_option maxRecDepth 100000
set_option maxHeartbeats 1000000
set_option linter.unusedSimpArgs false
set_option linter.unusedVariables false
theorem dig_val {b:UInt8} (h:isDig b=true):Lib.digitVal b=some (b.toNat - 48):=by
 simp only[isDig,Bool.and_eq_true,decide_eq_true_eq] at h
 unfold Lib.digitVal
 rw[if_pos h]
section
variable (w:World) (n:Nat)
def numV (r:Option Int):V:= .tup [.sc (.int .i64 (r.getD 0)),.sc (.bool r.isSome)]
theorem number_p (l:List UInt8) (hl:l.length≤1000000):VSpec (EN w (n+1)) 40 [strV l] (numV (numR l)) ⟨[],0,0⟩:=by
 refine vspec_flat rfl rfl (fun _ _=>rfl) (Nat.le_of_ble_eq_true rfl) (oldVals w) (by cases numR l<;>rfl) fun C hC h0=>?_
 have hsz:=mk_size l
 have no:¬ (l ≠ []∧l.length≤7∧(1<l.length→l[0]! ≠ 48)∧l.all isDig=true)→numR l=none:=fun h=>by unfold numR;rw[if_neg h]
 by_cases h1:l.length=0∨7<l.length
 ·rw[no (fun h=>by
   have:=List.length_pos_iff.2 h.1
   omega)]
  repeat' (first|(simp (disch:=first|omega|assumption|exact bd (by with_unfolding_all rfl)|exact Or.inl rfl|exact Or.inl trivial|exact okL_map _ (fun _=>rfl) _|(simp only[VVlen]<;>omega)|fail) only[O1,WA,slotsL,opdsA,Nat.reduceEqDiff,Nat.reduceLT,Nat.reduceAdd,Nat.reduceBEq,Int.reduceAdd,Int.reduceSub,Int.reduceLT,Int.reduceLE,Int.reduceEq,Int.reduceNeg,↓reduceIte,reduceCtorEq,List.replicate,c40,numV])|apply gC_drawW|((first|apply gI_dec|apply gG_dec|apply gPG_dec|apply gI_var|apply gG_var|apply gPG_var)<;>intro _))
  all_goals try (exfalso;omega)
  all_goals exact weak_flat rfl h0 rfl
 have hb0:=idxStr_l l .i64 (0:Nat) (by omega) (by omega)
 have hx48:((l[0]!.toNat:Nat):Int)=48↔l[0]! =48:=by
  constructor
  ·intro h;apply UInt8.toNat_inj.1;rw[show (48:UInt8).toNat=48 by rfl];omega
  ·intro h;rw[h];rfl
 rw[Int.toNat_natCast] at hb0
 simp only[Int.natCast_zero] at hb0
 by_cases h2:1<l.length∧l[0]! =48
 ·rw[no (fun h=>h.2.2.1 h2.1 h2.2)]
  have h3:=hx48.2 h2.2
  generalize l[0]!.toNat=B at*
  simp (disch:=first|omega|assumption|exact bd (by with_unfolding_all rfl)|exact Or.inl rfl|exact Or.inl trivial|exact okL_map _ (fun _=>rfl) _|(simp only[VVlen]<;>omega)|fail) only[O1,WA,slotsL,opdsA,Nat.reduceEqDiff,Nat.reduceLT,Nat.reduceAdd,Nat.reduceBEq,Int.reduceAdd,Int.reduceSub,Int.reduceLT,Int.reduceLE,Int.reduceEq,Int.reduceNeg,↓reduceIte,reduceCtorEq,List.replicate,c40,numV,hb0]
  all_goals try (exfalso;omega)
  all_goals exact weak_flat rfl h0 rfl
 have h3:1<l.length→¬ ((l[0]!.toNat:Nat):Int)=48:=fun h hh=>h2 ⟨h,hx48.1 hh⟩
 have h3:¬ 1<l.length∨¬ ((l[0]!.toNat:Nat):Int)=48:=by
  by_cases h:1<l.length
  ·exact .inr (h3 h)
  ·exact .inl h
 have hR:l.all isDig=true→numR l=some (((Lib.decFrom 0 l).getD 0:Nat):Int):=fun h=>by
  unfold numR
  rw[if_pos ⟨List.length_pos_iff.1 (by omega),by omega,fun h5=>fun h6=>h2 ⟨h5,h6⟩,h⟩]
 generalize l[0]!.toNat=B at hb0 h3
 repeat' (first|(simp (disch:=first|omega|assumption|exact bd (by with_unfolding_all rfl)|exact Or.inl rfl|exact Or.inl trivial|exact okL_map _ (fun _=>rfl) _|(simp only[VVlen]<;>omega)|fail) only[O1,WA,slotsL,opdsA,Nat.reduceEqDiff,Nat.reduceLT,Nat.reduceAdd,Nat.reduceBEq,Int.reduceAdd,Int.reduceSub,Int.reduceLT,Int.reduceLE,Int.reduceEq,Int.reduceNeg,↓reduceIte,reduceCtorEq,List.replicate,c40,hb0])|apply gC_drawW|((first|apply gI_dec|apply gG_dec|apply gPG_dec|apply gI_var|apply gG_var|apply gPG_var)<;>intro _))
 all_goals try (exfalso;omega)
 all_goals
  refine g_while (fun m fr st=>∃ k u:Nat,m=l.length - k∧k≤l.length∧u<10 ^ k∧(∀ j,j<k→isDig l[j]! =true)∧Lib.decFrom 0 (l.take k)=some u∧fr= [(0,strV l),(4,.sc (.int .i64 u)),(5,.sc (.int .i64 k))]∧st=⟨[],0,0⟩) l.length ?_ ⟨_,_,.refl _ _,0,0,?_⟩ ?_
  ·rw[hC,callP_rounds];unfold many;omega
  ·exact ⟨by omega,by omega,by decide,(fun j hj=>absurd hj (Nat.not_lt_zero _)),rfl,rfl,rfl⟩
  rintro m fr st ⟨k,u,rfl,hk,hu,hd,hf,rfl,rfl⟩
  have hu9:u<10000000:=Nat.lt_of_lt_of_le hu (by have:=Nat.pow_le_pow_right (show 1≤10 by omega) (show k≤7 by omega);simpa using this)
  by_cases hlt:k<l.length
  ·have hb:=idxStr_l l .i64 k (by omega) (by omega)
   rw[Int.toNat_natCast] at hb
   by_cases hdg:isDig l[k]! =true
   ·have hdg1:=hdg
    have hv:=dig_val hdg
    have hstep:=Lib.decFrom_take l k 0 u l[k]! _ hf (by rw[List.getElem?_eq_getElem hlt,getElem!_pos l k hlt]) hv
    have hnx:=lt_succ_cases hd hdg
    simp only[isDig,Bool.and_eq_true,decide_eq_true_eq] at hdg1
    generalize l[k]!.toNat=b at hb hstep hdg1
    have e1:IntKind.u8.wrap ((b:Int) - 48)=((b - 48:Nat):Int):=by rw[wrap_u8 _ (by omega) (by omega)];omega
    repeat' (first|(simp (disch:=first|omega|assumption|exact bd (by with_unfolding_all rfl)|exact Or.inl rfl|exact Or.inl trivial|exact okL_map _ (fun _=>rfl) _|(simp only[VVlen]<;>omega)|fail) only[O1,WA,slotsL,opdsA,Nat.reduceEqDiff,Nat.reduceLT,Nat.reduceAdd,Nat.reduceBEq,Int.reduceAdd,Int.reduceSub,Int.reduceLT,Int.reduceLE,Int.reduceEq,Int.reduceNeg,↓reduceIte,reduceCtorEq,List.replicate,c40l0,hb,e1])|apply gC_drawW|((first|apply gI_dec|apply gG_dec|apply gPG_dec|apply gI_var|apply gG_var|apply gPG_var)<;>intro _))
    all_goals try (exfalso;omega)
    refine ⟨_,_,_,by omega,.refl _ _,k+1,u*10+(b - 48),rfl,hlt,?_,hnx,hstep,?_,rfl⟩
    ·rw[Nat.pow_succ];omega
    ·have:(10:Int)*u+((b - 48:Nat):Int)=((u*10+(b - 48):Nat):Int):=by omega
     rw[this];simp
   ·have e:numR l=none:=no fun h=>hdg (List.all_eq_true.1 h.2.2.2 l[k]! (by rw[getElem!_pos l k hlt];exact List.getElem_mem hlt))
    rw[e]
    have hdg2:¬ (48≤l[k]!.toNat∧l[k]!.toNat≤57):=fun h=>hdg (by simp only[isDig,Bool.and_eq_true,decide_eq_true_eq];exact h)
    generalize l[k]!.toNat=b at hb hdg2
    repeat' (first|(simp (disch:=first|omega|assumption|exact bd (by with_unfolding_all rfl)|exact Or.inl rfl|exact Or.inl trivial|exact okL_map _ (fun _=>rfl) _|(simp only[VVlen]<;>omega)|fail) only[O1,WA,slotsL,opdsA,Nat.reduceEqDiff,Nat.reduceLT,Nat.reduceAdd,Nat.reduceBEq,Int.reduceAdd,Int.reduceSub,Int.reduceLT,Int.reduceLE,Int.reduceEq,Int.reduceNeg,↓reduceIte,reduceCtorEq,List.replicate,c40l0,hb,numV])|apply gC_drawW|((first|apply gI_dec|apply gG_dec|apply gPG_dec|apply gI_var|apply gG_var|apply gPG_var)<;>intro _))
    all_goals try (exfalso;omega)
    all_goals exact weak_flat rfl h0 rfl
  ·have:k=l.length:=by omega
   subst this
   rw[List.take_length] at hf
   have hall:l.all isDig=true:=List.all_eq_true.2 fun c hc=>by
    obtain ⟨i,hi,rfl⟩:=List.getElem_of_mem hc
    have:=hd i hi
    rw[getElem!_pos l i hi] at this
    exact this
   rw[hR hall,hf]
   repeat' (first|(simp (disch:=first|omega|assumption|exact bd (by with_unfolding_all rfl)|exact Or.inl rfl|exact Or.inl trivial|exact okL_map _ (fun _=>rfl) _|(simp only[VVlen]<;>omega)|fail) only[O1,WA,slotsL,opdsA,Nat.reduceEqDiff,Nat.reduceLT,Nat.reduceAdd,Nat.reduceBEq,Int.reduceAdd,Int.reduceSub,Int.reduceLT,Int.reduceLE,Int.reduceEq,Int.reduceNeg,↓reduceIte,reduceCtorEq,List.replicate,c40l0,numV,Option.getD])|apply gC_drawW|((first|apply gI_dec|apply gG_dec|apply gPG_dec|apply gI_var|apply gG_var|apply gPG_var)<;>intro _))
   exact weak_flat rfl h0 rfl
theorem cutF_p (l:List UInt8) (c:UInt8) (hl:l.length≤1000000):VSpec (EN w (n+1)) 39 [strV l,.sc (.int .u8 c.toNat)] (.sl 2 (words c l).length ((words c l).map sD)) ⟨[],0,0⟩:=by
 refine (cut_p w n l c hl).fin ?_ rfl rfl rfl (fun h=>by cases h)
 exact snap_grD rfl (by simp)
end
end Go.Proofs.YteibgbbfcjgjiaaDoor
namespace Go.Proofs.YteibgbbfcjgjiaaDoor
open Go Go.Itp
set_option maxRecDepth 100000
set_option maxHeartbeats 2000000
set_option linter.unusedSimpArgs false
set_option linter.unusedVariables false
abbrev tab0:Itp.Obj:= .box 25 1 [.sc (.slice none 0 0),.sc (.slice none 0 0),.sc (.slice none 0 0)]
abbrev parR (S N:List (List UInt8)) (M:List (List Int)):VHp:=
 [(3,.gro 40 1 false (M.map (rowI 2))),(2,.gro 9 1 false (N.map sD)),(1,.box 25 1 [strs 3 S,.gr 2 2 N.length,.gr 2 3 M.length]),(0,tab0)]
section
variable (w:World) (n:Nat)
theorem rrow_round {C:Ctx} (hC:C.E=EN w (n+5)) (h0:C.w0.nx=0) (s:List UInt8) (ls S N:List (List UInt8)) (M:List (List Int)) (i:Nat) (hi0:0<i) (hil:i<ls.length) (hls:ls.length≤10000) (hN:N.length≤10000) (hNM:M.length=N.length) (X:List UInt8) (hX:ls[i]! =X) (hXl:X.length≤8000) (ws:List (List UInt8)) (hws:words 32 X=ws) (hw:0<ws.length) (hwl:ws.length≤10000) (hx:∀ x ∈ ws,x.length≤10000) {P:VPost}
  (hgo:∀ l,allN numR ws.tail=some l→∀ fr st,Weak C fr st [(0,strV s),(2,.ptr 0 0),(4,.ptr 1 0),(5,strs 2 ls),(6,.sc (.int .i64 ((i:Int)+1)))] ⟨parR S (N++ [ws[0]!]) (M++ [l]),4,0⟩→P .normal fr st)
  (hstop:allN numR ws.tail=none→∀ fr st,st.ro=0→aget st.own 0=some tab0→aget fr 2=some (.ptr 0 0)→aget fr 3=some (.sc (.int .i64 12))→P .ret fr st):
  gC C c13l1 [] [(0,strV s),(2,.ptr 0 0),(4,.ptr 1 0),(5,strs 2 ls),(6,.sc (.int .i64 i))] ⟨parR S N M,4,0⟩ P:=by
 have hlm:(ls.map sD).length=ls.length:=by rw[List.length_map]
 have hwm:(ws.map sD).length=ws.length:=by rw[List.length_map]
 have hi1:¬ ((i:Int)=0):=by omega
 have hsp:=cutF_p w (n+4) X 32 (by omega)
 rw[hws] at hsp
 simp (disch:=first|omega|assumption|exact bd (by with_unfolding_all rfl)|exact Or.inl rfl|exact Or.inl trivial|exact okL_map _ (fun _=>rfl) _|(simp only[VVlen]<;>omega)|fail) only[O1,WA,slotsL,opdsA,Nat.reduceEqDiff,Nat.reduceLT,Nat.reduceAdd,Nat.reduceBEq,Int.reduceAdd,Int.reduceSub,Int.reduceLT,Int.reduceLE,Int.reduceEq,Int.reduceNeg,↓reduceIte,reduceCtorEq,List.replicate,c13l1,sD_dv,hX,hi1]
 all_goals try (exfalso;omega)
 refine callV_fin (by rw[hC];exact hsp) rfl rfl (fun _=>rfl) ?_
 simp (disch:=first|omega|assumption|exact bd (by with_unfolding_all rfl)|exact Or.inl rfl|exact Or.inl trivial|exact okL_map _ (fun _=>rfl) _|(simp only[VVlen]<;>omega)|fail) only[O1,WA,slotsL,opdsA,Nat.reduceEqDiff,Nat.reduceLT,Nat.reduceAdd,Nat.reduceBEq,Int.reduceAdd,Int.reduceSub,Int.reduceLT,Int.reduceLE,Int.reduceEq,Int.reduceNeg,↓reduceIte,reduceCtorEq,List.replicate,hi1,sD_dv]
 all_goals try (exfalso;omega)
 have hN':(N++ [ws[0]!]).length=N.length+1:=by rw[List.length_append];rfl
 have htl:ws.tail.length=ws.length - 1:=by simp
 refine g_while (fun m fr st=>∃ (k:Nat) (l:List Int),m=ws.length+1 - k∧0<k∧k≤ws.length∧allN numR (ws.tail.take (k - 1))=some l∧fr= [(0,strV s),(2,.ptr 0 0),(4,.ptr 1 0),(5,strs 2 ls),(6,.sc (.int .i64 i)),(7,strs 2 ws),(8,.gr 2 4 l.length),(9,.sc (.int .i64 k))]∧st=⟨(4,.gro 3 1 false (l.map iD))::parR S (N++ [ws[0]!]) M,5,0⟩) ws.length ?_ ⟨_,_,(weak_nilSlot 8 3 1 rfl).trans (weak_toB [(6,4),(3,3),(5,2),(1,1),(0,0)] 5 (by rw[h0];exact Nat.zero_le _) rfl (by rw[h0];rfl) rfl (st':=⟨(4,.gro 3 1 false (([]:List Int).map iD))::parR S (N++ [ws[0]!]) M,5,0⟩) ?_),1,[],by omega,by omega,hw,rfl,rfl,rfl⟩ ?_
 ·rw[hC,callP_rounds];unfold many;omega
 ·unfold parR;rw[hN',List.map_append];rfl
 rintro m fr st ⟨k,l,rfl,hk0,hk,hl,rfl,rfl⟩
 have hll:=allN_len hl
 rw[List.length_take,htl,Nat.min_eq_left (by omega)] at hll
 have hlm2:(l.map iD).length=l.length:=by rw[List.length_map]
 by_cases hlt:k<ws.length
 ·have hjw:ws.tail[k - 1]! =ws[k]! :=by
   rw[getElem!_pos _ (k - 1) (by omega),getElem!_pos ws k (by omega)]
   simp only[List.getElem_tail]
   congr 1
   omega
  have htk:ws.tail.take k=ws.tail.take (k - 1)++ [ws[k]!]:=by
   have:=List.take_succ_eq_append_getElem (l:=ws.tail) (i:=k - 1) (by omega)
   rw[show k - 1+1=k by omega] at this
   rw[this,← getElem!_pos ws.tail (k - 1) (by omega),hjw]
  have hsplit:ws.tail=ws.tail.take (k - 1)++(ws[k]! ::ws.tail.drop k):=by
   have:=List.drop_eq_getElem_cons (l:=ws.tail) (i:=k - 1) (by omega)
   rw[show k - 1+1=k by omega,← getElem!_pos ws.tail (k - 1) (by omega),hjw] at this
   rw[← this,List.take_append_drop]
  have hm:ws[k]! ∈ ws:=by rw[getElem!_pos ws k hlt];exact List.getElem_mem _
  have hnum:=number_p w (n+4) ws[k]! (by have:=hx _ hm;omega)
  generalize hY:ws[k]! =Y at*
  cases hv:numR Y with
  |none=>
   rw[hv] at hnum
   have hno:allN numR ws.tail=none:=by
    rw[hsplit,allN_snoc _ _ _ _ hl,allN,hv];rfl
   have hstop:=hstop hno
   simp (disch:=first|omega|assumption|exact bd (by with_unfolding_all rfl)|exact Or.inl rfl|exact Or.inl trivial|exact okL_map _ (fun _=>rfl) _|(simp only[VVlen]<;>omega)|fail) only[O1,WA,slotsL,opdsA,Nat.reduceEqDiff,Nat.reduceLT,Nat.reduceAdd,Nat.reduceBEq,Int.reduceAdd,Int.reduceSub,Int.reduceLT,Int.reduceLE,Int.reduceEq,Int.reduceNeg,↓reduceIte,reduceCtorEq,List.replicate,c13l0,sD_dv,hY]
   all_goals try (exfalso;omega)
   refine callV_flat (by rw[hC];exact hnum.flat rfl rfl) ?_
   simp (disch:=first|omega|assumption|exact bd (by with_unfolding_all rfl)|exact Or.inl rfl|exact Or.inl trivial|exact okL_map _ (fun _=>rfl) _|(simp only[VVlen]<;>omega)|fail) only[O1,WA,slotsL,opdsA,Nat.reduceEqDiff,Nat.reduceLT,Nat.reduceAdd,Nat.reduceBEq,Int.reduceAdd,Int.reduceSub,Int.reduceLT,Int.reduceLE,Int.reduceEq,Int.reduceNeg,↓reduceIte,reduceCtorEq,List.replicate,numV,Option.isSome]
   all_goals try (exfalso;omega)
   exact hstop _ _ rfl rfl rfl rfl
  |some v=>
   rw[hv] at hnum
   simp (disch:=first|omega|assumption|exact bd (by with_unfolding_all rfl)|exact Or.inl rfl|exact Or.inl trivial|exact okL_map _ (fun _=>rfl) _|(simp only[VVlen]<;>omega)|fail) only[O1,WA,slotsL,opdsA,Nat.reduceEqDiff,Nat.reduceLT,Nat.reduceAdd,Nat.reduceBEq,Int.reduceAdd,Int.reduceSub,Int.reduceLT,Int.reduceLE,Int.reduceEq,Int.reduceNeg,↓reduceIte,reduceCtorEq,List.replicate,c13l0,sD_dv,hY]
   all_goals try (exfalso;omega)
   refine callV_flat (by rw[hC];exact hnum.flat rfl rfl) ?_
   simp (disch:=first|omega|assumption|exact bd (by with_unfolding_all rfl)|exact Or.inl rfl|exact Or.inl trivial|exact okL_map _ (fun _=>rfl) _|(simp only[VVlen]<;>omega)|fail) only[O1,WA,slotsL,opdsA,Nat.reduceEqDiff,Nat.reduceLT,Nat.reduceAdd,Nat.reduceBEq,Int.reduceAdd,Int.reduceSub,Int.reduceLT,Int.reduceLE,Int.reduceEq,Int.reduceNeg,↓reduceIte,reduceCtorEq,List.replicate,numV,Option.isSome]
   all_goals try (exfalso;omega)
   refine ⟨_,_,_,by omega,weak_toB [(6,4),(3,3),(2,2),(1,1),(0,0)] 5 (by rw[h0];exact Nat.zero_le _) rfl (by rw[h0];rfl) rfl rfl,k+1,l++ [v],rfl,by omega,hlt,?_,?_,?_⟩
   ·rw[Nat.add_sub_cancel,htk,allN_snoc _ _ _ _ hl,allN,hv];rfl
   ·rw[List.length_append];rfl
   ·rw[show (l++ [v]).map iD=l.map iD++ [iD v] from List.map_append];rfl
 ·have:k=ws.length:=by omega
  subst this
  rw[List.take_of_length_le (by omega)] at hl
  have hgo:=hgo l hl
  simp (disch:=first|omega|assumption|exact bd (by with_unfolding_all rfl)|exact Or.inl rfl|exact Or.inl trivial|exact okL_map _ (fun _=>rfl) _|(simp only[VVlen]<;>omega)|fail) only[O1,WA,slotsL,opdsA,Nat.reduceEqDiff,Nat.reduceLT,Nat.reduceAdd,Nat.reduceBEq,Int.reduceAdd,Int.reduceSub,Int.reduceLT,Int.reduceLE,Int.reduceEq,Int.reduceNeg,↓reduceIte,reduceCtorEq,List.replicate,c13l0,fzSL,fzS]
  all_goals try (exfalso;omega)
  refine hgo _ _ (weak_toB [(6,3),(2,2),(1,1),(0,0)] 4 (by rw[h0];exact Nat.zero_le _) rfl (by rw[h0];rfl) rfl (st':=⟨parR S (N++ [ws[0]!]) (M++ [l]),4,0⟩) ?_)
  unfold parR
  rw[show (M++ [l]).map (rowI 2)=M.map (rowI 2)++ [rowI 2 l] from List.map_append,List.length_append,List.length_append]
  rfl
end
end Go.Proofs.YteibgbbfcjgjiaaDoor
namespace Go.Proofs.YteibgbbfcjgjiaaDoor
open Go Go.Itp
set_option maxRecDepth 100000
set_option maxHeartbeats 2000000
set_option linter.unusedSimpArgs false
set_option linter.unusedVariables false
abbrev parR0:VHp:= [(3,.gro 40 1 false []),(2,.gro 9 1 false []),(1,.box 25 1 [.sc (.slice none 0 0),.gr 2 2 0,.gr 2 3 0]),(0,tab0)]
section
variable (w:World) (n:Nat)
theorem rhead_round {C:Ctx} (hC:C.E=EN w (n+5)) (h0:C.w0.nx=0) (s:List UInt8) (ls:List (List UInt8)) (hil:0<ls.length) (hls:ls.length≤10000) (X:List UInt8) (hX:ls[0]! =X) (hXl:X.length≤8000) (ws:List (List UInt8)) (hws:words 32 X=ws) (hw:0<ws.length) (hwl:ws.length≤10000) {P:VPost}
  (hgo:ws[0]! =sizeL→∀ fr st,Weak C fr st [(0,strV s),(2,.ptr 0 0),(4,.ptr 1 0),(5,strs 2 ls),(6,.sc (.int .i64 1))] ⟨parR ws.tail [] [],4,0⟩→P .normal fr st)
  (hstop:ws[0]! ≠ sizeL→∀ fr st,st.ro=0→aget st.own 0=some tab0→aget fr 2=some (.ptr 0 0)→aget fr 3=some (.sc (.int .i64 12))→P .ret fr st):
  gC C c13l1 [] [(0,strV s),(2,.ptr 0 0),(4,.ptr 1 0),(5,strs 2 ls),(6,.sc (.int .i64 0))] ⟨parR0,4,0⟩ P:=by
 have hlm:(ls.map sD).length=ls.length:=by rw[List.length_map]
 have hwm:(ws.map sD).length=ws.length:=by rw[List.length_map]
 have hX0:ls[Int.toNat 0]! =X:=hX
 have hsp:=cutF_p w (n+4) X 32 (by omega)
 rw[hws] at hsp
 have hsz:(⟨#[115,105,122,101]⟩:ByteArray)=⟨sizeL.toArray⟩:=rfl
 have hw0:ws[Int.toNat 0]! =ws[0]! :=rfl
 by_cases hz:ws[0]! =sizeL
 ·have hgo:=hgo hz
  simp (disch:=first|omega|assumption|exact bd (by with_unfolding_all rfl)|exact Or.inl rfl|exact Or.inl trivial|exact okL_map _ (fun _=>rfl) _|(simp only[VVlen]<;>omega)|fail) only[O1,WA,slotsL,opdsA,Nat.reduceEqDiff,Nat.reduceLT,Nat.reduceAdd,Nat.reduceBEq,Int.reduceAdd,Int.reduceSub,Int.reduceLT,Int.reduceLE,Int.reduceEq,Int.reduceNeg,↓reduceIte,reduceCtorEq,List.replicate,c13l1,sD_dv,hX,hX0]
  all_goals try (exfalso;omega)
  refine callV_fin (by rw[hC];exact hsp) rfl rfl (fun _=>rfl) ?_
  simp (disch:=first|omega|assumption|exact bd (by with_unfolding_all rfl)|exact Or.inl rfl|exact Or.inl trivial|exact okL_map _ (fun _=>rfl) _|(simp only[VVlen]<;>omega)|fail) only[O1,WA,slotsL,opdsA,Nat.reduceEqDiff,Nat.reduceLT,Nat.reduceAdd,Nat.reduceBEq,Int.reduceAdd,Int.reduceSub,Int.reduceLT,Int.reduceLE,Int.reduceEq,Int.reduceNeg,↓reduceIte,reduceCtorEq,List.replicate,hsz,hz,hw0,sD_dv,mk_inj]
  all_goals try (exfalso;omega)
  refine hgo _ _ (weak_to [(3,3),(2,2),(1,1),(0,0)] 4 h0 rfl rfl rfl (st':=⟨parR ws.tail [] [],4,0⟩) ?_)
  have e:(ws.drop 1).take (ws.length - 1)=ws.tail:=by
   rw[List.drop_one,List.take_of_length_le (by simp)]
  show (⟨[(3,.gro 40 1 false []),(2,.gro 9 1 false []),(1,.box 25 1 [.sl 3 (ws.length - 1) (((ws.drop 1).take (ws.length - 1)).map sD),.gr 2 2 0,.gr 2 3 0]),(0,tab0)],4,0⟩:VSt)=_
  rw[e,← List.length_tail]
  rfl
 ·have hstop:=hstop hz
  simp (disch:=first|omega|assumption|exact bd (by with_unfolding_all rfl)|exact Or.inl rfl|exact Or.inl trivial|exact okL_map _ (fun _=>rfl) _|(simp only[VVlen]<;>omega)|fail) only[O1,WA,slotsL,opdsA,Nat.reduceEqDiff,Nat.reduceLT,Nat.reduceAdd,Nat.reduceBEq,Int.reduceAdd,Int.reduceSub,Int.reduceLT,Int.reduceLE,Int.reduceEq,Int.reduceNeg,↓reduceIte,reduceCtorEq,List.replicate,c13l1,sD_dv,hX,hX0]
  all_goals try (exfalso;omega)
  refine callV_fin (by rw[hC];exact hsp) rfl rfl (fun _=>rfl) ?_
  simp (disch:=first|omega|assumption|exact bd (by with_unfolding_all rfl)|exact Or.inl rfl|exact Or.inl trivial|exact okL_map _ (fun _=>rfl) _|(simp only[VVlen]<;>omega)|fail) only[O1,WA,slotsL,opdsA,Nat.reduceEqDiff,Nat.reduceLT,Nat.reduceAdd,Nat.reduceBEq,Int.reduceAdd,Int.reduceSub,Int.reduceLT,Int.reduceLE,Int.reduceEq,Int.reduceNeg,↓reduceIte,reduceCtorEq,List.replicate,hsz,hz,hw0,sD_dv,mk_inj]
  all_goals try (exfalso;omega)
  exact hstop _ _ rfl rfl rfl rfl
end
end Go.Proofs.YteibgbbfcjgjiaaDoor
namespace Go.Proofs.YteibgbbfcjgjiaaDoor
open Go Go.Itp
set_option maxRecDepth 100000
set_option maxHeartbeats 2000000
set_option linter.unusedSimpArgs false
set_option linter.unusedVariables false
section
variable (w:World) (n:Nat)
theorem rlines_walk {C:Ctx} (hC:C.E=EN w (n+5)) (h0:C.w0.nx=0) (s:List UInt8) (ls:List (List UInt8)) (hl0:0<ls.length) (hls:ls.length≤10000) (hll:∀ x ∈ ls,x.length≤8000) {K:List KF} {P:VPost}
  (hgo:∀ N M,(words 32 ls[0]!)[0]! =sizeL→rowL numR ls.tail=some (N,M)→gK C K (.exit 0) [(0,strV s),(2,.ptr 0 0),(4,.ptr 1 0),(5,strs 2 ls),(6,.sc (.int .i64 ls.length)),(40,.sc (.bool false))] ⟨parR (words 32 ls[0]!).tail N M,4,0⟩ P)
  (hstop:((words 32 ls[0]!)[0]! =sizeL→rowL numR ls.tail=none)→∀ fr st,st.ro=0→aget st.own 0=some tab0→aget fr 2=some (.ptr 0 0)→aget fr 3=some (.sc (.int .i64 12))→gK C K .ret fr st P)
  {fr0:VFr} {st0:VSt} (hst:Weak C fr0 st0 [(0,strV s),(2,.ptr 0 0),(4,.ptr 1 0),(5,strs 2 ls),(6,.sc (.int .i64 0))] ⟨parR0,4,0⟩):
  gL C [0,2,4,5,6] c13l1 K fr0 st0 P:=by
 have hrn:C.E.rounds=many:=by rw[hC,callP_rounds]
 have htl:ls.tail.length=ls.length - 1:=by simp
 refine g_while (fun m fr st=>∃ k:Nat,m=ls.length - k∧k≤ls.length∧fr= [(0,strV s),(2,.ptr 0 0),(4,.ptr 1 0),(5,strs 2 ls),(6,.sc (.int .i64 (k:Int)))]∧
  ((k=0∧st=⟨parR0,4,0⟩)∨(0<k∧(words 32 ls[0]!)[0]! =sizeL∧∃ N M,rowL numR (ls.tail.take (k - 1))=some (N,M)∧st=⟨parR (words 32 ls[0]!).tail N M,4,0⟩))) ls.length ?_ ⟨_,_,hst,0,by omega,Nat.zero_le _,rfl,.inl ⟨rfl,rfl⟩⟩ ?_
 ·rw[hrn];unfold many;omega
 rintro m fr st ⟨k,rfl,hk,rfl,hcase⟩
 have hwords:∀ x ∈ ls,0<(words 32 x).length∧(words 32 x).length≤10000∧∀ y ∈ words 32 x,y.length≤10000:=fun x hx=>by
  have hb:=hll x hx
  have hwl:=Go.Itp.words_len (c:=32) x.length (s:=x) (Nat.le_refl _)
  exact ⟨List.length_pos_iff.2 (words_ne 32 x),by omega,fun y hy=>by have:=hwl.2 y hy;omega⟩
 rcases hcase with ⟨rfl,rfl⟩|⟨hk0,hsz,N,M,hr,rfl⟩
 ·have hm:ls[0]! ∈ ls:=by rw[getElem!_pos ls 0 hl0];exact List.getElem_mem _
  obtain ⟨a1,a2,a3⟩:=hwords _ hm
  refine rhead_round w n hC h0 s ls hl0 hls _ rfl (hll _ hm) _ rfl a1 a2 (fun hsz fr st hw=>?_) (fun hsz fr st h1 h2 h3 h4=>hstop (fun h=>absurd h hsz) fr st h1 h2 h3 h4)
  refine ⟨_,_,_,?_,hw,1,rfl,by omega,rfl,.inr ⟨by omega,hsz,[],[],rfl,rfl⟩⟩
  omega
 ·have hrl:=rowL_len hr
  rw[List.length_take,htl,Nat.min_eq_left (by omega)] at hrl
  by_cases hlt:k<ls.length
  case neg=>
   have:k=ls.length:=by omega
   subst this
   rw[List.take_of_length_le (by omega)] at hr
   have hgo:=hgo N M hsz hr
   simp (disch:=first|omega|assumption|exact bd (by with_unfolding_all rfl)|exact Or.inl rfl|exact Or.inl trivial|exact okL_map _ (fun _=>rfl) _|(simp only[VVlen]<;>omega)|fail) only[O1,WA,slotsL,opdsA,Nat.reduceEqDiff,Nat.reduceLT,Nat.reduceAdd,Nat.reduceBEq,Int.reduceAdd,Int.reduceSub,Int.reduceLT,Int.reduceLE,Int.reduceEq,Int.reduceNeg,↓reduceIte,reduceCtorEq,List.replicate,c13l1]
   all_goals try (exfalso;omega)
   all_goals exact hgo
  have hm:ls[k]! ∈ ls:=by rw[getElem!_pos ls k hlt];exact List.getElem_mem _
  obtain ⟨a1,a2,a3⟩:=hwords _ hm
  have hjw:ls.tail[k - 1]! =ls[k]! :=by
   rw[getElem!_pos _ (k - 1) (by omega),getElem!_pos ls k (by omega)]
   simp only[List.getElem_tail]
   congr 1
   omega
  have htk:ls.tail.take k=ls.tail.take (k - 1)++ [ls[k]!]:=by
   have:=List.take_succ_eq_append_getElem (l:=ls.tail) (i:=k - 1) (by omega)
   rw[show k - 1+1=k by omega] at this
   rw[this,← getElem!_pos ls.tail (k - 1) (by omega),hjw]
  have hsplit:ls.tail=ls.tail.take (k - 1)++(ls[k]! ::ls.tail.drop k):=by
   have:=List.drop_eq_getElem_cons (l:=ls.tail) (i:=k - 1) (by omega)
   rw[show k - 1+1=k by omega,← getElem!_pos ls.tail (k - 1) (by omega),hjw] at this
   rw[← this,List.take_append_drop]
  refine rrow_round w n hC h0 s ls _ N M k hk0 hlt hls (by omega) (by omega) _ rfl (hll _ hm) _ rfl a1 a2 a3 (fun l hl fr st hw=>?_) (fun hno fr st h1 h2 h3 h4=>?_)
  ·refine ⟨_,_,_,?_,hw,k+1,rfl,by omega,rfl,.inr ⟨by omega,hsz,N++ [(words 32 ls[k]!)[0]!],M++ [l],?_,rfl⟩⟩
   ·omega
   ·rw[Nat.add_sub_cancel,htk,rowL_snoc _ _ _ _ _ hr,rowL,hl]
    rfl
  ·refine hstop (fun _=>?_) fr st h1 h2 h3 h4
   rw[hsplit,rowL_snoc _ _ _ _ _ hr,rowL,hno]
   rfl
theorem rparse_walk {C:Ctx} (hC:C.E=EN w (n+5)) (h0:C.w0.nx=0) (s:List UInt8) (hs:s.length≤100000) {P:VPost}
  (hno:accF (rawR s) s=none→∀ fr st,st.ro=0→aget st.own 0=some tab0→aget fr 2=some (.ptr 0 0)→aget fr 3=some (.sc (.int .i64 12))→P .ret fr st)
  (hyes:∀ S N M,accF (rawR s) s=some (S,N,M)→∀ fr st,st.ro=0→aget st.own 0=some (.box 25 1 [strs 3 S,.gr 2 2 N.length,.gr 2 3 M.length])→aget st.own 2=some (.gro 9 1 false (N.map sD))→aget st.own 3=some (.gro 40 1 false (M.map (rowI 2)))→aget fr 2=some (.ptr 0 0)→aget fr 3=some (.sc (.int .i64 0))→P .ret fr st):
  gC C c13.code [] [(0,strV s)] ⟨[],0,0⟩ P:=by
 have hsz:(⟨s.toArray⟩:ByteArray).size=s.length:=by simp[ByteArray.size]
 have nob:(8000<s.length∨s.getLast? ≠ some 10)→accF (rawR s) s=none:=fun h=>by
  rcases h with h|h
  ·have hb:¬ s.length≤8000:=by omega
   unfold accF
   cases rawR s<;>simp[hb]
  ·have:rawR s=none:=by unfold rawR;rw[if_neg (fun hh=>h hh.1)]
   rw[this];rfl
 by_cases hbig:8000<s.length∨s.length=0
 ·have ha:accF (rawR s) s=none:=by
   refine nob ?_
   rcases hbig with h|h
   ·exact .inl h
   ·have:=List.eq_nil_of_length_eq_zero h
    subst this
    exact .inr (by simp)
  have hno:=hno ha
  repeat' (first|(simp (disch:=first|omega|assumption|exact bd (by with_unfolding_all rfl)|exact Or.inl rfl|exact Or.inl trivial|exact okL_map _ (fun _=>rfl) _|(simp only[VVlen]<;>omega)|fail) only[O1,WA,slotsL,opdsA,Nat.reduceEqDiff,Nat.reduceLT,Nat.reduceAdd,Nat.reduceBEq,Int.reduceAdd,Int.reduceSub,Int.reduceLT,Int.reduceLE,Int.reduceEq,Int.reduceNeg,↓reduceIte,reduceCtorEq,List.replicate,c13,hsz])|apply gC_drawW|((first|apply gI_dec|apply gG_dec|apply gPG_dec|apply gI_var|apply gG_var|apply gPG_var)<;>intro _))
  all_goals try (exfalso;omega)
  all_goals exact hno _ _ rfl rfl rfl rfl
 have hlast:s.getLast? =some s[s.length - 1]! :=by
  rw[List.getLast?_eq_getElem?,List.getElem?_eq_getElem (by omega),getElem!_pos s (s.length - 1) (by omega)]
 have hb:=idxStr_l s .i64 ((s.length:Int) - 1) (by omega) (by omega)
 rw[show ((s.length:Int) - 1).toNat=s.length - 1 by omega] at hb
 have h10:((s[s.length - 1]!.toNat:Nat):Int)=10↔s[s.length - 1]! =10:=by
  constructor
  ·intro h;apply UInt8.toNat_inj.1;rw[show (10:UInt8).toNat=10 by rfl];omega
  ·intro h;rw[h];rfl
 by_cases hl10:s[s.length - 1]! =10
 case neg=>
  have hno:=hno (nob (.inr (by rw[hlast];intro h;exact hl10 (Option.some.inj h))))
  have h10:=mt h10.1 hl10
  generalize s[s.length - 1]!.toNat=B at*
  simp (disch:=first|omega|assumption|exact bd (by with_unfolding_all rfl)|exact Or.inl rfl|exact Or.inl trivial|exact okL_map _ (fun _=>rfl) _|(simp only[VVlen]<;>omega)|fail) only[O1,WA,slotsL,opdsA,Nat.reduceEqDiff,Nat.reduceLT,Nat.reduceAdd,Nat.reduceBEq,Int.reduceAdd,Int.reduceSub,Int.reduceLT,Int.reduceLE,Int.reduceEq,Int.reduceNeg,↓reduceIte,reduceCtorEq,List.replicate,c13,hsz,hb]
  all_goals try (exfalso;omega)
  all_goals exact hno _ _ rfl rfl rfl rfl
 have hlast:s.getLast? =some 10:=by rw[hlast,hl10]
 have h10:=h10.2 hl10
 generalize s[s.length - 1]!.toNat=B at hb h10
 have hcut:=slcS_hi s .i64 ((s.length:Int) - 1) (by omega) (by omega)
 rw[show ((s.length:Int) - 1).toNat=s.length - 1 by omega,← List.dropLast_eq_take] at hcut
 have hdl:s.dropLast.length≤8000:=by rw[List.length_dropLast];omega
 have hsp:=cutF_p w (n+4) s.dropLast 10 (by omega)
 have hwl:=Go.Itp.words_len (c:=10) s.dropLast.length (s:=s.dropLast) (Nat.le_refl _)
 have hw0:=List.length_pos_iff.2 (words_ne 10 s.dropLast)
 have hraw:rawR s=if (words 32 (words 10 s.dropLast)[0]!)[0]! =sizeL then (rowL numR (words 10 s.dropLast).tail).map fun p=>((words 32 (words 10 s.dropLast)[0]!).tail,p.1,p.2) else none:=by
  unfold rawR
  by_cases h:(words 32 (words 10 s.dropLast)[0]!)[0]! =sizeL
  ·rw[if_pos ⟨hlast,h⟩,if_pos h]
  ·rw[if_neg (fun hh=>h hh.2),if_neg h]
 generalize words 10 s.dropLast=ls at*
 simp (disch:=first|omega|assumption|exact bd (by with_unfolding_all rfl)|exact Or.inl rfl|exact Or.inl trivial|exact okL_map _ (fun _=>rfl) _|(simp only[VVlen]<;>omega)|fail) only[O1,WA,slotsL,opdsA,Nat.reduceEqDiff,Nat.reduceLT,Nat.reduceAdd,Nat.reduceBEq,Int.reduceAdd,Int.reduceSub,Int.reduceLT,Int.reduceLE,Int.reduceEq,Int.reduceNeg,↓reduceIte,reduceCtorEq,List.replicate,c13,hsz,hb,hcut]
 all_goals try (exfalso;omega)
 refine callV_fin (by rw[hC];exact hsp) rfl rfl (fun _=>rfl) ?_
 repeat' (first|(simp (disch:=first|omega|assumption|exact bd (by with_unfolding_all rfl)|exact Or.inl rfl|exact Or.inl trivial|exact okL_map _ (fun _=>rfl) _|(simp only[VVlen]<;>omega)|fail) only[O1,WA,slotsL,opdsA,Nat.reduceEqDiff,Nat.reduceLT,Nat.reduceAdd,Nat.reduceBEq,Int.reduceAdd,Int.reduceSub,Int.reduceLT,Int.reduceLE,Int.reduceEq,Int.reduceNeg,↓reduceIte,reduceCtorEq,List.replicate])|apply gC_drawW|((first|apply gI_dec|apply gG_dec|apply gPG_dec|apply gI_var|apply gG_var|apply gPG_var)<;>intro _))
 all_goals try (exfalso;omega)
 have hst:∀ fr:VFr,Weak C fr ⟨[(1,tab0),(0,tab0)],2,0⟩ fr ⟨parR0,4,0⟩:=fun fr=>
  have h1:Weak C fr ⟨[(1,tab0),(0,tab0)],2,0⟩ fr ⟨[(2,.gro 9 1 false []),(1,.box 25 1 [.sc (.slice none 0 0),.gr 2 2 0,.sc (.slice none 0 0)]),(0,tab0)],3,0⟩:=weak_nilCell (l:= [.sc (.slice none 0 0),.sc (.slice none 0 0),.sc (.slice none 0 0)]) 1 25 1 1 9 1 rfl rfl (show (1:Nat) ≠ 2 from by decide)
  have h2:Weak C fr ⟨[(2,.gro 9 1 false []),(1,.box 25 1 [.sc (.slice none 0 0),.gr 2 2 0,.sc (.slice none 0 0)]),(0,tab0)],3,0⟩ fr ⟨parR0,4,0⟩:=weak_nilCell (st:=⟨[(2,.gro 9 1 false []),(1,.box 25 1 [.sc (.slice none 0 0),.gr 2 2 0,.sc (.slice none 0 0)]),(0,tab0)],3,0⟩) (l:= [.sc (.slice none 0 0),.gr 2 2 0,.sc (.slice none 0 0)]) 1 25 1 2 40 1 rfl rfl (show (1:Nat) ≠ 3 from by decide)
  h1.trans h2
 refine rlines_walk w n hC h0 s ls hw0 (by omega) (fun x hx=>by have:=hwl.2 x hx;omega) (fun N M hsl hr=>?_) (fun hr fr st h1 h2 h3 h4=>?_) (hst _)
 ·rw[if_pos hsl,hr,Option.map_some] at hraw
  have hmod:Mod (words 32 ls[0]!).tail N M:=by
   have hlb:∀ x ∈ ls,x.length≤8000:=fun x hx=>by have:=hwl.2 x hx;omega
   have hb:=rowL_mod 8000 (fun x hx=>hlb x (List.mem_of_mem_tail hx)) hr
   have hm:ls[0]! ∈ ls:=by rw[getElem!_pos ls 0 hw0];exact List.getElem_mem _
   have hx:=Go.Itp.words_len (c:=32) (ls[0]!).length (s:=ls[0]!) (Nat.le_refl _)
   have hx0:=hlb _ hm
   have hrl:=rowL_len hr
   rw[List.length_tail] at hrl
   refine ⟨by rw[List.length_tail];omega,by omega,by omega,fun j hj=>?_,fun j hj=>?_,fun j hj=>?_⟩
   ·rw[getElem!_pos _ j hj]
    have:=hx.2 _ (List.mem_of_mem_tail (List.getElem_mem hj))
    omega
   ·rw[getElem!_pos _ j hj]
    have:=hb.1 _ (List.getElem_mem hj)
    omega
   ·rw[getElem!_pos _ j hj]
    have:=hb.2 _ (List.getElem_mem hj)
    omega
  generalize (words 32 ls[0]!).tail=S at*
  have htx:∀ (st:VSt) (xs:List V),snapL st.own xs=some [tableV 3 2 2 2 S N M]→VSpecO C.E 11 st xs (.tup [strV (textF (S,N,M)).1,.sc (.int .i64 (textF (S,N,M)).2)]):=fun st xs h=>by rw[hC];exact (rtextB_p w (n+1) 3 2 2 2 (S,N,M) hmod).flat rfl h
  have hsn:snapL (parR S N M) [.agg [strs 3 S,.gr 2 2 N.length,.gr 2 3 M.length]]=some [tableV 3 2 2 2 S N M]:=by
   have e3:snapV (parR S N M) (.gr 2 2 N.length)=some (strs 2 N):=snap_grD (t:=9) (z:=false) rfl (by simp)
   have e4:snapV (parR S N M) (.gr 2 3 M.length)=some (rowsV 2 2 M):=snap_grD (t:=40) (z:=false) rfl (by simp)
   simp only[snapL,snapV] at e3 e4 ⊢
   simp only[e3,e4,Option.bind_some,Option.map_some]
  simp (disch:=first|omega|assumption|exact bd (by with_unfolding_all rfl)|exact Or.inl rfl|exact Or.inl trivial|exact okL_map _ (fun _=>rfl) _|(simp only[VVlen]<;>omega)|fail) only[O1,WA,slotsL,opdsA,Nat.reduceEqDiff,Nat.reduceLT,Nat.reduceAdd,Nat.reduceBEq,Int.reduceAdd,Int.reduceSub,Int.reduceLT,Int.reduceLE,Int.reduceEq,Int.reduceNeg,↓reduceIte,reduceCtorEq,List.replicate]
  refine callV_flat (htx _ _ hsn) ?_
  by_cases hz:(textF (S,N,M)).2=0
  ·by_cases ht:(textF (S,N,M)).1=s
   ·have hacc:accF (rawR s) s=some (S,N,M):=by
     unfold accF
     rw[hraw,Option.bind_some,if_pos ⟨by omega,Prod.ext ht hz⟩]
    have hy:=hyes S N M hacc
    simp (disch:=first|omega|assumption|exact bd (by with_unfolding_all rfl)|exact Or.inl rfl|exact Or.inl trivial|exact okL_map _ (fun _=>rfl) _|(simp only[VVlen]<;>omega)|fail) only[O1,WA,slotsL,opdsA,Nat.reduceEqDiff,Nat.reduceLT,Nat.reduceAdd,Nat.reduceBEq,Int.reduceAdd,Int.reduceSub,Int.reduceLT,Int.reduceLE,Int.reduceEq,Int.reduceNeg,↓reduceIte,reduceCtorEq,List.replicate,hz,ht]
    all_goals try (exfalso;omega)
    all_goals exact hy _ _ rfl rfl rfl rfl rfl rfl
   ·have hacc:accF (rawR s) s=none:=by
     unfold accF
     rw[hraw,Option.bind_some,if_neg (fun h=>ht (by rw[h.2]))]
    have hn:=hno hacc
    repeat' (first|(simp (disch:=first|omega|assumption|exact bd (by with_unfolding_all rfl)|exact Or.inl rfl|exact Or.inl trivial|exact okL_map _ (fun _=>rfl) _|(simp only[VVlen]<;>omega)|fail) only[O1,WA,slotsL,opdsA,Nat.reduceEqDiff,Nat.reduceLT,Nat.reduceAdd,Nat.reduceBEq,Int.reduceAdd,Int.reduceSub,Int.reduceLT,Int.reduceLE,Int.reduceEq,Int.reduceNeg,↓reduceIte,reduceCtorEq,List.replicate,hz,ht])|apply gC_drawW|((first|apply gI_dec|apply gG_dec|apply gPG_dec|apply gI_var|apply gG_var|apply gPG_var)<;>intro _))
    all_goals try (exfalso;omega)
    all_goals try exact hn _ _ rfl rfl rfl rfl
    all_goals
     rename_i hh
     exact absurd (by have:=congrArg (fun b:ByteArray=>b.data.toList) (Classical.not_not.1 hh);simpa using this) ht
  ·have hacc:accF (rawR s) s=none:=by
    unfold accF
    rw[hraw,Option.bind_some,if_neg (fun h=>hz (by rw[h.2]))]
   have hn:=hno hacc
   simp (disch:=first|omega|assumption|exact bd (by with_unfolding_all rfl)|exact Or.inl rfl|exact Or.inl trivial|exact okL_map _ (fun _=>rfl) _|(simp only[VVlen]<;>omega)|fail) only[O1,WA,slotsL,opdsA,Nat.reduceEqDiff,Nat.reduceLT,Nat.reduceAdd,Nat.reduceBEq,Int.reduceAdd,Int.reduceSub,Int.reduceLT,Int.reduceLE,Int.reduceEq,Int.reduceNeg,↓reduceIte,reduceCtorEq,List.replicate,hz]
   all_goals try (exfalso;omega)
   all_goals exact hn _ _ rfl rfl rfl rfl
 ·refine hno ?_ fr st h1 h2 h3 h4
  by_cases hsl:(words 32 ls[0]!)[0]! =sizeL
  ·rw[hraw,if_pos hsl,hr hsl]
   rfl
  ·rw[hraw,if_neg hsl]
   rfl
def rparseV:Option Tb→V
 |some t=> .tup [tableV 3 2 2 2 t.1 t.2.1 t.2.2,.sc (.int .i64 0)]
 |none=> .tup [.agg [.sc (.slice none 0 0),.sc (.slice none 0 0),.sc (.slice none 0 0)],.sc (.int .i64 12)]
theorem retOK_rparse (r:Option Tb):RetOK [] (rparseV r):=by
 cases r with
 |none=>exact retOK_nil (by simp only[rparseV,Cl,ClL,and_true])
 |some t=>exact retOK_nil (by simp only[rparseV,Cl,ClL,and_true];exact ⟨rfl,rfl,rfl⟩)
theorem rparse_p (s:List UInt8) (hs:s.length≤100000):VSpec (EN w (n+6)) 13 [strV s] (rparseV (accF (rawR s) s)) ⟨[],0,0⟩:=by
 refine vspec_g rfl rfl (fun _ _=>rfl) (Nat.le_of_ble_eq_true rfl) (oldVals w) (retOK_rparse _) rfl fun C hC h0=>?_
 refine rparse_walk w n hC h0 s hs (fun ha fr st hro h1 h2 h3=>?_) (fun S N M ha fr st hro h1 h3 h4 h5 h6=>?_)
 ·rw[ha]
  have hv:vresOf C fr st [(2,some (some 3)),(3,none)]=some [.agg [.sc (.slice none 0 0),.sc (.slice none 0 0),.sc (.slice none 0 0)],.sc (.int .i64 12)]:=by
   simp only[vresOf,h2,h3,Option.bind_some,vload,h1]
   rfl
  exact ⟨_,hv,weak_to [] 0 h0 hro rfl rfl rfl⟩
 ·rw[ha]
  have hv:vresOf C fr st [(2,some (some 3)),(3,none)]=some [.agg [strs 3 S,.gr 2 2 N.length,.gr 2 3 M.length],.sc (.int .i64 0)]:=by
   simp only[vresOf,h5,h6,Option.bind_some,vload,h1]
   rfl
  have e3:snapV st.own (.gr 2 2 N.length)=some (strs 2 N):=snap_grD h3 (by simp)
  have e4:snapV st.own (.gr 2 3 M.length)=some (rowsV 2 2 M):=snap_grD h4 (by simp)
  have hsn:snapV st.own (.tup [.agg [strs 3 S,.gr 2 2 N.length,.gr 2 3 M.length],.sc (.int .i64 0)])=some (rparseV (some (S,N,M))):=by
   simp only[snapL,snapV] at e3 e4 ⊢
   simp only[e3,e4,Option.bind_some,Option.map_some]
   rfl
  refine ⟨_,hv,(weak_snap (t:=0) rfl hsn ?_).trans (weak_to [] 0 h0 hro rfl rfl rfl)⟩
  show rowsB st.ro st.own [2,3]=true
  simp[rowsB,h3,h4,hro]
end
end Go.Proofs.YteibgbbfcjgjiaaDoor
namespace Go.Proofs.YteibgbbfcjgjiaaDoor
open Go Go.Itp
set_option maxRecDepth 100000
set_option maxHeartbeats 2000000
set_option linter.unusedSimpArgs false
set_option linter.unusedVariables false
theorem mod_great {S N:List (List UInt8)} {M:List (List Int)} (h:greatS S N M=false):Mod S N M:=by
 have h:=of_decide_eq_false h
 refine ⟨by omega,by omega,by omega,fun j hj=>?_,fun j hj=>?_,fun j hj=>?_⟩
 ·have:¬ 60<S[j]!.length:=fun hh=>h (.inr (.inr (.inr (.inl ⟨j,hj,hh⟩))))
  omega
 ·have:¬ 60<N[j]!.length:=fun hh=>h (.inr (.inr (.inr (.inr (.inl ⟨j,hj,hh⟩)))))
  omega
 ·have:¬ 40<M[j]!.length:=fun hh=>h (.inr (.inr (.inr (.inr (.inr ⟨j,hj,hh⟩)))))
  omega
theorem accF_some {raw:Option Tb} {s:List UInt8} {t:Tb} (h:accF raw s=some t):textF t=(s,0):=by
 unfold accF at h
 cases raw with
 |none=>cases h
 |some u=>
  rw[Option.bind_some] at h
  split at h
  ·rename_i h1;cases h;exact h1.2
  ·cases h
end Go.Proofs.YteibgbbfcjgjiaaDoor
namespace Go.Proofs.YteibgbbfcjgjiaaDoor
open Go Go.Itp
set_option maxRecDepth 100000
set_option maxHeartbeats 2000000
set_option linter.unusedSimpArgs false
set_option linter.unusedVariables false
theorem mod_nil:Mod [] [] []:=by
 refine ⟨by simp,by simp,by simp,fun j hj=>?_,fun j hj=>?_,fun j hj=>?_⟩<;>exact absurd hj (Nat.not_lt_zero _)
theorem same_tab0 {C:Ctx} {st:VSt} {b:V}:VSame C st (.tup [.agg [.sc (.slice none 0 0),.sc (.slice none 0 0),.sc (.slice none 0 0)],b]) (.tup [tableV 3 3 3 0 [] [] [],b]):=
 same_tup (.cons (same_agg (.cons same_nil3 (.cons same_nil3 (.cons same_nil3 .nil)))) (.cons (VSame.refl _) .nil))
theorem gtexts_walk (w:World) {C:Ctx} (hC:C.E=EN w 8) (h0:C.w0.nx=0) (S N:List (List UInt8)) (M:List (List Int)) (s:List UInt8) (hsl:s.length≤10000) (T:List UInt8 × Int) (a b c d a' b' c' d':Nat) (t:Tb) (e:Int)
  (hg:VSpec (EN w 8) 9 [tableV 3 3 3 1 S N M] (.sc (.bool false)) ⟨[],0,0⟩)
  (pt:VSpec (EN w 8) 10 [tableV 3 3 3 1 S N M] (.tup [strV T.1,.sc (.int .i64 T.2)]) ⟨[],0,0⟩)
  (pr:VSpec (EN w 8) 11 [tableV 3 3 3 1 S N M] (.tup [strV T.1,.sc (.int .i64 T.2)]) ⟨[],0,0⟩)
  (p1:VSpec (EN w 8) 12 [strV s] (.tup [tableV a b c d t.1 t.2.1 t.2.2,.sc (.int .i64 e)]) ⟨[],0,0⟩)
  (p2:VSpec (EN w 8) 13 [strV s] (.tup [tableV a' b' c' d' t.1 t.2.1 t.2.2,.sc (.int .i64 e)]) ⟨[],0,0⟩)
  (ps:VSpec (EN w 8) 14 [tableV a b c d t.1 t.2.1 t.2.2,tableV a' b' c' d' t.1 t.2.1 t.2.2] (.sc (.bool true)) ⟨[],0,0⟩):
  gC C c3.code [] (vargs 0 [tableV 3 3 3 1 S N M,strV s]) ⟨[],0,0⟩ (RetV C c3.res (.sc (.bool true)) ⟨[],0,0⟩):=by
 have hsz:=mk_size s
 simp (disch:=first|omega|assumption|exact bd (by with_unfolding_all rfl)|exact Or.inl rfl|exact Or.inl trivial|exact okL_map _ (fun _=>rfl) _|(simp only[VVlen]<;>omega)|fail) only[O1,WA,slotsL,opdsA,Nat.reduceEqDiff,Nat.reduceLT,Nat.reduceAdd,Nat.reduceBEq,Int.reduceAdd,Int.reduceSub,Int.reduceLT,Int.reduceLE,Int.reduceEq,Int.reduceNeg,↓reduceIte,reduceCtorEq,List.replicate,c3]
 refine callV_flat (by rw[hC];exact hg.flat rfl rfl) ?_
 simp (disch:=first|omega|assumption|exact bd (by with_unfolding_all rfl)|exact Or.inl rfl|exact Or.inl trivial|exact okL_map _ (fun _=>rfl) _|(simp only[VVlen]<;>omega)|fail) only[O1,WA,slotsL,opdsA,Nat.reduceEqDiff,Nat.reduceLT,Nat.reduceAdd,Nat.reduceBEq,Int.reduceAdd,Int.reduceSub,Int.reduceLT,Int.reduceLE,Int.reduceEq,Int.reduceNeg,↓reduceIte,reduceCtorEq,List.replicate]
 all_goals try (exfalso;omega)
 refine callV_flat (by rw[hC];exact pt.flat rfl rfl) ?_
 simp (disch:=first|omega|assumption|exact bd (by with_unfolding_all rfl)|exact Or.inl rfl|exact Or.inl trivial|exact okL_map _ (fun _=>rfl) _|(simp only[VVlen]<;>omega)|fail) only[O1,WA,slotsL,opdsA,Nat.reduceEqDiff,Nat.reduceLT,Nat.reduceAdd,Nat.reduceBEq,Int.reduceAdd,Int.reduceSub,Int.reduceLT,Int.reduceLE,Int.reduceEq,Int.reduceNeg,↓reduceIte,reduceCtorEq,List.replicate]
 refine callV_flat (by rw[hC];exact pr.flat rfl rfl) ?_
 simp (disch:=first|omega|assumption|exact bd (by with_unfolding_all rfl)|exact Or.inl rfl|exact Or.inl trivial|exact okL_map _ (fun _=>rfl) _|(simp only[VVlen]<;>omega)|fail) only[O1,WA,slotsL,opdsA,Nat.reduceEqDiff,Nat.reduceLT,Nat.reduceAdd,Nat.reduceBEq,Int.reduceAdd,Int.reduceSub,Int.reduceLT,Int.reduceLE,Int.reduceEq,Int.reduceNeg,↓reduceIte,reduceCtorEq,List.replicate]
 refine callV_fin (by rw[hC];exact p1) rfl rfl (fun _=>rfl) ?_
 simp (disch:=first|omega|assumption|exact bd (by with_unfolding_all rfl)|exact Or.inl rfl|exact Or.inl trivial|exact okL_map _ (fun _=>rfl) _|(simp only[VVlen]<;>omega)|fail) only[O1,WA,slotsL,opdsA,Nat.reduceEqDiff,Nat.reduceLT,Nat.reduceAdd,Nat.reduceBEq,Int.reduceAdd,Int.reduceSub,Int.reduceLT,Int.reduceLE,Int.reduceEq,Int.reduceNeg,↓reduceIte,reduceCtorEq,List.replicate]
 refine callV_fin (by rw[hC];exact p2) rfl rfl (fun _=>rfl) ?_
 simp (disch:=first|omega|assumption|exact bd (by with_unfolding_all rfl)|exact Or.inl rfl|exact Or.inl trivial|exact okL_map _ (fun _=>rfl) _|(simp only[VVlen]<;>omega)|fail) only[O1,WA,slotsL,opdsA,Nat.reduceEqDiff,Nat.reduceLT,Nat.reduceAdd,Nat.reduceBEq,Int.reduceAdd,Int.reduceSub,Int.reduceLT,Int.reduceLE,Int.reduceEq,Int.reduceNeg,↓reduceIte,reduceCtorEq,List.replicate]
 refine callV_flat (by rw[hC];exact ps.flat rfl rfl) ?_
 simp (disch:=first|omega|assumption|exact bd (by with_unfolding_all rfl)|exact Or.inl rfl|exact Or.inl trivial|exact okL_map _ (fun _=>rfl) _|(simp only[VVlen]<;>omega)|fail) only[O1,WA,slotsL,opdsA,Nat.reduceEqDiff,Nat.reduceLT,Nat.reduceAdd,Nat.reduceBEq,Int.reduceAdd,Int.reduceSub,Int.reduceLT,Int.reduceLE,Int.reduceEq,Int.reduceNeg,↓reduceIte,reduceCtorEq,List.replicate]
 all_goals exact weak_flat rfl h0 rfl
theorem gtexts_g (w:World) (S N:List (List UInt8)) (M:List (List Int)) (s:List UInt8)
  (hm:S.length≤140737488351232∧N.length≤140737488351232∧M.length≤140737488351232) (zs:∀ j,j<S.length→S[j]!.length≤140737488351232) (zn:∀ j,j<N.length→N[j]!.length≤140737488351232) (zm:∀ j,j<M.length→M[j]!.length≤140737488351232) (hs:s.length≤140737488351232)
  (hes:(errO Tryd.prog w "strconv.ErrSyntax").isSome=true) (her:(errO Tryd.prog w "strconv.ErrRange").isSome=true) {C:Ctx} (hC:C.E=EN w 8) (h0:C.w0.nx=0):
  gC C c3.code [] (vargs 0 [tableV 3 3 3 1 S N M,strV s]) ⟨[],0,0⟩ (RetV C c3.res (.sc (.bool true)) ⟨[],0,0⟩):=by
 have hg:=great_p w 7 3 3 3 1 S N M hm zs zn zm
 have hsz:=mk_size s
 cases hG:greatS S N M with
 |true=>
  rw[hG] at hg
  simp (disch:=first|omega|assumption|exact bd (by with_unfolding_all rfl)|exact Or.inl rfl|exact Or.inl trivial|exact okL_map _ (fun _=>rfl) _|(simp only[VVlen]<;>omega)|fail) only[O1,WA,slotsL,opdsA,Nat.reduceEqDiff,Nat.reduceLT,Nat.reduceAdd,Nat.reduceBEq,Int.reduceAdd,Int.reduceSub,Int.reduceLT,Int.reduceLE,Int.reduceEq,Int.reduceNeg,↓reduceIte,reduceCtorEq,List.replicate,c3]
  refine callV_flat (by rw[hC];exact hg.flat rfl rfl) ?_
  simp (disch:=first|omega|assumption|exact bd (by with_unfolding_all rfl)|exact Or.inl rfl|exact Or.inl trivial|exact okL_map _ (fun _=>rfl) _|(simp only[VVlen]<;>omega)|fail) only[O1,WA,slotsL,opdsA,Nat.reduceEqDiff,Nat.reduceLT,Nat.reduceAdd,Nat.reduceBEq,Int.reduceAdd,Int.reduceSub,Int.reduceLT,Int.reduceLE,Int.reduceEq,Int.reduceNeg,↓reduceIte,reduceCtorEq,List.replicate]
  exact weak_flat rfl h0 rfl
 |false=>
  rw[hG] at hg
  by_cases hl:10000<s.length
  ·simp (disch:=first|omega|assumption|exact bd (by with_unfolding_all rfl)|exact Or.inl rfl|exact Or.inl trivial|exact okL_map _ (fun _=>rfl) _|(simp only[VVlen]<;>omega)|fail) only[O1,WA,slotsL,opdsA,Nat.reduceEqDiff,Nat.reduceLT,Nat.reduceAdd,Nat.reduceBEq,Int.reduceAdd,Int.reduceSub,Int.reduceLT,Int.reduceLE,Int.reduceEq,Int.reduceNeg,↓reduceIte,reduceCtorEq,List.replicate,c3]
   refine callV_flat (by rw[hC];exact hg.flat rfl rfl) ?_
   simp (disch:=first|omega|assumption|exact bd (by with_unfolding_all rfl)|exact Or.inl rfl|exact Or.inl trivial|exact okL_map _ (fun _=>rfl) _|(simp only[VVlen]<;>omega)|fail) only[O1,WA,slotsL,opdsA,Nat.reduceEqDiff,Nat.reduceLT,Nat.reduceAdd,Nat.reduceBEq,Int.reduceAdd,Int.reduceSub,Int.reduceLT,Int.reduceLE,Int.reduceEq,Int.reduceNeg,↓reduceIte,reduceCtorEq,List.replicate]
   all_goals try (exfalso;omega)
   exact weak_flat rfl h0 rfl
  have hM:=mod_great hG
  have p1:=parse_p w 0 hes her s (by omega)
  have p2:=rparse_p w 2 s (by omega)
  rw[← acc_eq (fun v hv=>numR_itoa v hv)] at p2
  have pt:=textB_p w 3 3 3 3 1 (by decide) (S,N,M) hM
  have pr:=rtextB_p w 4 3 3 3 1 (S,N,M) hM
  cases hr:accF (rawP s) s with
  |none=>
   rw[hr] at p1 p2
   exact gtexts_walk w hC h0 S N M s (by omega) (textF (S,N,M)) 3 3 3 0 3 3 3 0 ([],[],[]) 12 hg pt pr
    (p1.same (fun C=>same_tab0) (fun h=>by cases h)) (p2.same (fun C=>same_tab0) (fun h=>by cases h)) (same_p w 6 3 3 3 0 3 3 3 0 [] [] [] mod_nil)
  |some t=>
   rw[hr] at p1 p2
   have hmt:=good_mod (textF_good (accF_some hr)).1
   exact gtexts_walk w hC h0 S N M s (by omega) (textF (S,N,M)) 0 2 2 0 3 2 2 2 t 0 hg pt pr
    p1 p2 (same_p w 6 0 2 2 0 3 2 2 2 t.1 t.2.1 t.2.2 hmt)
end Go.Proofs.YteibgbbfcjgjiaaDoor
namespace Go.Proofs.YteibgbbfcjgjiaaDoor
open Go Go.Itp
open Go.ChangeShapes Go.WideShapes Go.ChangeAt Go.RowKit
set_option linter.unusedVariables false
set_option maxRecDepth 100000
set_option maxHeartbeats 4000000
theorem reach_lt:reachBytes≤140737488351232:=by decide
theorem slice_t {P:Program} {W:World} {base:Nat} {held:Bool} {H:Type} {enc:TypeId × Value→H} {t e:TypeId} {n:Nat} {v:Value} {x:DataW H × List MemPlace} (ht:P.underlying t=some (.slice e)) (h:DataW.trod enc P W base (fun _=>true) held n t [v]=some x):v= .slice none 0 0∨∃ a n c,v= .slice (some a) n c:=by
 rcases DataW.trod_slice ht h with ⟨h1,_⟩|⟨a,len,cap,_,_,_,_,h1,_⟩
 ·exact .inl (by simpa using h1)
 ·exact .inr ⟨_,_,_,by simpa using h1⟩
theorem strs_old {old:Nat→Nat→Option Value} {v:Value} {l:List ByteArray} (r:Rd old [] Value.string v l) (hb:bidN v=0) (hv:v= .slice none 0 0∨∃ a n c,v= .slice (some a) n c):
  VRep (wOld old) (strs 3 (l.map fun b:ByteArray=>b.data.toList)) v:=by
 have h:=vrep_old (fun b:ByteArray=>sD b.data.toList) r hb hv fun x _=>by simp only[sD,DRep,scOK,and_self,Array.toArray_toList]
 have e:l.map (fun b:ByteArray=>sD b.data.toList)=(l.map fun b:ByteArray=>b.data.toList).map sD:=by rw[List.map_map];rfl
 unfold strs
 rw[List.length_map,← e]
 exact h
theorem strs_len {l:List ByteArray} {B:Nat} (h:∀ j,j<l.length→l[j]!.size≤B):∀ j,j<(l.map fun b:ByteArray=>b.data.toList).length→(l.map fun b:ByteArray=>b.data.toList)[j]!.length≤B:=fun j hj=>by
 rw[List.length_map] at hj
 have:=h j hj
 rw[getElem!_pos _ j (by rw[List.length_map];exact hj),List.getElem_map]
 rw[getElem!_pos l j hj] at this
 simpa using this
theorem open_table {H:Type} {enc:TypeId × Value→H} {W:World} {b:Nat} {held:Bool} {v:Value} {d:DataW H} {ps:List MemPlace} (hv:Value.okWide Tryd.prog W .any b 25 v) (h:DataW.Trod enc Tryd.prog W 0 (fun _=>true) held 25 v d ps)
  (hsz:∀ n ∈ d.weights Tryd.prog 25,n≤reachBytes):
  ∃ (S N:List (List UInt8)) (M:List (List Int)),VRep (wOld (oldOf W)) (tableV 3 3 3 1 S N M) v∧ids 0 v= []∧(S.length≤reachBytes∧N.length≤reachBytes∧M.length≤reachBytes)∧(∀ j,j<S.length→S[j]!.length≤reachBytes)∧(∀ j,j<N.length→N[j]!.length≤reachBytes)∧
   ∀ j,j<M.length→M[j]!.length≤reachBytes∧∀ z ∈ M[j]!,(Lit.int .i64 z).wf=true:=by
 obtain ⟨n,a0,a1,a2,y0,y1,y2,rfl,e0,e1,e2,h0,h1,h2,w0,w1,w2⟩:=open_three Tryd.underlying25 rfl rfl rfl (by kernel_rfl) (by kernel_rfl) (by kernel_rfl) (by kernel_rfl) hv h hsz
 obtain ⟨S,s1,s2,s3,s4⟩:=rd_strings' Tryd.underlying22 Tryd.underlying9 (by kernel_rfl) (by rw[show Tryd.prog.bytesOf 9=16 by kernel_rfl];decide) h0 w0
 obtain ⟨N,n1,n2,n3,n4⟩:=rd_strings' Tryd.underlying22 Tryd.underlying9 (by kernel_rfl) (by rw[show Tryd.prog.bytesOf 9=16 by kernel_rfl];decide) h1 w1
 obtain ⟨rs,V,v1,v2,v3,v4,v5⟩:=rd_rows' Tryd.underlying23 Tryd.underlying40 Tryd.underlying3 (by kernel_rfl) (by rw[show Tryd.prog.bytesOf 40=24 by kernel_rfl];decide) (by kernel_rfl) (by rw[show Tryd.prog.bytesOf 3=8 by kernel_rfl];decide) h2 w2
 rw[show Tryd.prog.bytesOf 9=16 by kernel_rfl] at s4 n4
 rw[show Tryd.prog.bytesOf 40=24 by kernel_rfl] at v4
 rw[show Tryd.prog.bytesOf 3=8 by kernel_rfl] at v5
 rw[e0] at s1 s2
 rw[e1] at n1 n2
 rw[e2] at v1 v2
 have r0:=strs_old (s1 []) s2 (slice_t Tryd.underlying22 h0)
 have r1:=strs_old (n1 []) n2 (slice_t Tryd.underlying22 h1)
 have r2:VRep (wOld (oldOf W)) (rowsV 3 1 V) a2:=vrep_rows (v1 []) v2 (slice_t Tryd.underlying23 h2) v3 fun j hj=>⟨(v5 j hj).1 [],(v5 j hj).2.1,(v5 j hj).2.2.2.2⟩
 refine ⟨S.map fun b:ByteArray=>b.data.toList,N.map fun b:ByteArray=>b.data.toList,V,?_,?_,⟨by rw[List.length_map];omega,by rw[List.length_map];omega,by omega⟩,strs_len s3,strs_len n3,fun j hj=>⟨by have:=(v5 j hj).2.2.2.1;omega,(v5 j hj).2.2.1⟩⟩
 ·unfold tableV
  rw[VRep]
  refine ⟨[a0,a1,a2],rfl,?_⟩
  simp only[VRepL]
  exact ⟨_,_,rfl,r0,_,_,rfl,r1,_,_,rfl,r2,rfl⟩
 ·rw[ids_agg,idsL_cons,idsL_cons,idsL_cons,abs_ids e0 s2 (trod_is_slice Tryd.underlying22 h0),abs_ids e1 n2 (trod_is_slice Tryd.underlying22 h1),abs_ids e2 v2 (trod_is_slice Tryd.underlying23 h2)]
  rfl
def listed:List (String × DataW Unit):= [("math/bits.deBruijn32tab",Rows.laid_math_bits_deBruijn32tab),("math/bits.deBruijn64tab",Rows.laid_math_bits_deBruijn64tab),("internal/strconv.uint64pow10",Rows.laid_internal_strconv_uint64pow10),("unicode/utf8.acceptRanges",Rows.laid_unicode_utf8_acceptRanges),("strconv.ErrRange",Rows.laid_strconv_ErrRange),("strconv.ErrSyntax",Rows.laid_strconv_ErrSyntax),("unicode/utf8.first",Rows.laid_unicode_utf8_first)]
theorem listed_met (os:Os) (args:Array Value):laidMetH Tryd.prog listed ((World.laidAll Tryd.prog os listed).forCall (fun _ _=>0) ⟨#[],args,[]⟩).memory:=by
 rw[MakeChecks.laidMetH_plain _ _ _ (by kernel_rfl)]
 exact laidMet_laidAll _ (by kernel_rfl) (by kernel_rfl)
theorem listed_shaped (os:Os):(World.laidAll Tryd.prog os listed).Shaped Tryd.prog:=World.shaped_of_ZipB (by kernel_rfl) (by kernel_rfl)
theorem stand_ins {l:List TypeId} {t:TypeId} (hall:(l.all fun u=> !Tryd.prog.wantsStandIn u)=true) (h:t ∈ l):Tryd.prog.wantsStandIn t=false:=by
 have:=List.all_eq_true.1 hall t h
 simpa using this
theorem gtexts_lifted (os:Os) (started:os.Started) (H:Type) (enc:TypeId × Value→H):
  ReturnsInHanded {} Tryd.checked os 3 .any (fun w args=>(Rows.gradeTextsSpec.pre enc Tryd.prog Tryd.f3 [] false w args∧laidMetH Tryd.prog listed w)∧sizedMet enc Tryd.prog Tryd.f3 (OpenSpec.ofChange Rows.gradeTextsSpec) false w args)
   (Rows.gradeTextsSpec.post enc Tryd.prog Tryd.f3 false true false false):=by
 refine returnsInHanded_of_change_and (C:=Tryd.checked) (X:=fun w _=>laidMetH Tryd.prog listed w) (fun _ _ _ hh h=>h.of_heap hh) own started (by kernel_rfl) Tryd.func3
  (ChangeSpec.witness_shaped (enc:=enc) (C:=Tryd.checked) (os:=os) (X:=fun w _=>laidMetH Tryd.prog listed w) false (World.laidAll Tryd.prog os listed) #[.agg #[.slice none 0 0,.slice none 0 0,.slice none 0 0],.string .empty] 8 (World.laidAll_os _ _ _) (listed_shaped os) (by kernel_rfl) (by kernel_rfl) (by kernel_rfl) (listed_met os _)) ?_
 intro W base args ds gs before hval0 hW _ hsz0 hL _
 have hval:∀ (j:Nat) t v,Tryd.f3.params[j]? =some t→args[j]? =some v→Value.okWide Tryd.prog W .any base t v:=hval0
 have hW':=hW
 obtain ⟨p,q,hA0,hV,rfl,hfz,hnd⟩:=hW
 have hA:DataW.TrodAll enc Tryd.prog W 0 (fun _=>true) true Tryd.f3.params.toList args.toList ds p:=hA0
 have hsz:(DataW.weightsEach Tryd.prog (Tryd.f3.params.toList++Rows.gradeTextsSpec.plain.varTypes Tryd.prog) (ds++gs)).all (· ≤reachBytes)=true:=hsz0
 rw[Tryd.params3] at hA hval hsz
 obtain ⟨v0,vs0,d0,ds0,p0,q0,hargs,rfl,rfl,h0,r0⟩:=trodAll_cons hA
 obtain ⟨v1,vs1,d1,ds1,p1,q1,rfl,rfl,rfl,h1,r1⟩:=trodAll_cons r0
 obtain ⟨rfl,rfl,rfl⟩:=trodAll_nil r1
 obtain rfl:args=#[v0,v1]:=by cases args;simp_all
 have hr:=reach_lt
 obtain ⟨S0,N0,M0,hv0,hli0,⟨ha0,hb0,hc0⟩,hd0,he0,hf0⟩:=open_table (hval 0 25 v0 rfl rfl) h0 (weights_at (j:=0) hsz rfl rfl)
 obtain ⟨s1,rfl,hs1⟩:=open_str Tryd.underlying9 (hval 1 9 v1 rfl rfl) h1 (weights_at (j:=1) hsz rfl rfl)
 obtain ⟨x1,rfl⟩:∃ x:List UInt8,s1=⟨x.toArray⟩:=⟨s1.data.toList,by simp⟩
 rw[mk_size] at hs1
 have hLm:laidMet Tryd.prog listed W:=by rw[← MakeChecks.laidMetH_plain _ _ _ (by kernel_rfl)];exact hL
 have htab:Tab W:=laid_tab hLm 2 rfl (g:=3) (t:=123) (e:=105) (k:= .u64) (m:=20) (by kernel_rfl) (by kernel_rfl) Tryd.underlying123 Tryd.underlying105 (by kernel_rfl) (by kernel_rfl) rfl
 have hesy:(errO Tryd.prog W "strconv.ErrSyntax").isSome=true:=laid_errO hLm 5 rfl (g:=0) (t:=63) (by kernel_rfl) (by kernel_rfl) Tryd.underlying63
 have herr:(errO Tryd.prog W "strconv.ErrRange").isSome=true:=laid_errO hLm 4 rfl (g:=1) (t:=63) (by kernel_rfl) (by kernel_rfl) Tryd.underlying63
 obtain ⟨s',hbody⟩:=law_v (old:=oldOf W) (rounds:=many) (fns:=fns) (prims:=PR W) (n:=8) (af:=c3) (xs:= [tableV 3 3 3 1 S0 N0 M0,.sc (.string ⟨x1.toArray⟩)]) (xsI:= [v0,.string ⟨x1.toArray⟩]) (x:= .bool true) (Nat.le_of_ble_eq_true rfl)
  (by simp only[VRepL];exact ⟨_,_,rfl,hv0,_,_,rfl,.mksc rfl,rfl⟩) fun C hC hn=>gtexts_g W S0 N0 M0 x1 ⟨Nat.le_trans ha0 hr,Nat.le_trans hb0 hr,Nat.le_trans hc0 hr⟩ (fun j hj=>Nat.le_trans (hd0 j hj) hr) (fun j hj=>Nat.le_trans (he0 j hj) hr) (fun j hj=>Nat.le_trans (hf0 j hj).1 hr) (by omega) hesy herr hC hn
 have hfn:fns 3=some c3:=rfl
 have hrv:ids 0 (.bool true)= []:=rfl
 refine (law_of htab (f:=3) (af:=c3) hfn (xs:= [v0,.string ⟨x1.toArray⟩]) (by simp only[idsL_cons,hli0];rfl) _ hbody hrv).mono fun e W' ⟨he,hbe⟩=>?_
 exact ⟨_,he,law_post hW' rfl rfl (by kernel_rfl) (by kernel_rfl) Tryd.underlying4 hbe⟩
theorem gtexts_over:Rows.GradeTextsSaid:=
 OpenClaim.holds_of_wide 3 Tryd.f3 rfl rfl rfl rfl rfl rfl rfl ⟨rfl,rfl,rfl,rfl,rfl⟩ rfl rfl rfl rfl rfl (by kernel_rfl) Tryd.func3 (by kernel_rfl)
  (of_decide_eq_true (by kernel_rfl)) (by unfold Func.isWrapper;first|(rw[if_pos (by decide+kernel)];kernel_rfl)|(rw[if_neg (by decide+kernel)];exact ⟨rfl,rfl⟩))
  (fun os started H enc _=>gtexts_lifted os started H enc)
theorem gtexts_holds:Rows.GradeTextsCardSaid:=
 Claim7.holds_tied_plain_at .later [] [.data,.data,.data,.data,.sentinel,.sentinel,.pinned] true _ true
  gtexts_over (fun _ h=>by cases h) (by kernel_rfl) (fun _ h=>by cases h) gradeTexts_row_tie rfl ⟨rfl,rfl⟩ (by kernel_rfl) rfl
  (fun f fn hf hfn=>by
   obtain rfl:f=3:=Option.some.inj ((show Tryd.prog.funcNamed "raddle/raddlelaw40.GradeTexts"=some 3 by kernel_rfl).symm.trans hf)|>.symm
   obtain rfl:fn=Tryd.f3:=(Option.some.inj (Tryd.func3.symm.trans hfn)).symm
   exact ⟨by kernel_rfl,fun j t ht=>stand_ins (l:= [25,9]) (by kernel_rfl) (by rw[Tryd.params3] at ht;simpa using Array.mem_of_getElem? ht)⟩)
  (by kernel_rfl)
#print axioms gtexts_holds
end Go.Proofs.YteibgbbfcjgjiaaDoor
