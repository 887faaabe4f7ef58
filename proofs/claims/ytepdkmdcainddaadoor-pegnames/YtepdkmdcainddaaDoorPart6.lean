/- Part of the proof of Rows.PegNamesCardSaid: the law returns true, with no condition.
   Texts: W18r, VT7, W18s, W18t, W18u, Q18a, Q18b, Q18c, Q18d, W18v, Q18e, Q18h, Q18j, Q18i, Q18k.
-/
import Derived.Test.YtepdkmdcainddaaDoorPart5
import Derived.Test.YtepdkmdcainddaaDoorCards
import Derived.Test.YtepdkmdcainddaaDoorTie
import Derived.SizedLaws
import Derived.ChangeAt
import Derived.SevenTiedAt
import Derived.Stop.Joined
import Derived.Lay
namespace Go.Proofs.YtepdkmdcainddaaDoor
open Go Go.Itp
set_option maxRecDepth 100000
set_option maxHeartbeats 2000000
set_option linter.unusedSimpArgs false
set_option linter.unusedVariables false
abbrev baseR (N H:Nat) (B R:List Bool) (r:List UInt8):VHp:=
 [(8,.box 3 1 [.sc (.int .i64 0)]),(7,sBox [32]),(6,sBox r),(5,.box 22 1 [.ref 4 0 N N]),(4,.row 4 1 false false (R.map bD)),(3,.gro 4 1 false (B.map bD)),(2,.box 24 1 [.sc (.int .i64 N),.sc (.int .i64 H),.gr 2 3 B.length]),(1,.box 24 1 [.sc (.int .i64 0),.sc (.int .i64 0),.sc (.slice none 0 0)]),(0,.box 3 1 [.sc (.int .i64 N)])]
section
variable (w:World) (n:Nat)
theorem atoi_any {C:Ctx} {st:VSt} {Q:V→VSt→Prop} (hC:C.E=EN w (n+1)) (l:List UInt8) (hl:l.length≤1000000) (hes:(errO Tryd.prog w "strconv.ErrSyntax").isSome=true) (her:(errO Tryd.prog w "strconv.ErrRange").isSome=true)
  (h1:∀ v,numA l=some v→Q (.tup [.sc (.int .i64 v),.sc .nilIface]) st)
  (h2:numA l=none→∀ (k:Int) (cs:List V),Q (.tup [.sc (.int .i64 k),.ifc 114 (.ptr st.next 0)]) ⟨(st.next,.box 132 1 cs)::st.own,st.next+1,st.ro⟩):CallV C 50 [strV l] st Q:=by
 have hs:(ByteArray.mk l.toArray).size≤281474976710656:=by rw[mk_size];omega
 cases hu:numA l with
 |some v=>exact callV_flat (by rw[hC];exact atoi_s w n _ ⟨l.toArray⟩ v hs (numA_ok hu)) (h1 v hu)
 |none=>
  obtain ⟨k,cs,sp⟩:=atoi_f w n ⟨l.toArray⟩ hs hes her (numA_none hu)
  refine callV_of (by rw[hC];exact sp) rfl rfl rfl ?_
  obtain ⟨H,nx,ro⟩:=st
  have:=h2 hu k (vshL nx (cs.map V.sc))
  simp only[vsh,vshL,shH,shO,fzSL,fzS,frozA_none,Nat.add_zero,Nat.zero_add,List.nil_append,List.cons_append] at this ⊢
  exact this
theorem rd_round {C:Ctx} (hC:C.E=EN w (n+7)) (hes:(errO Tryd.prog w "strconv.ErrSyntax").isSome=true) (her:(errO Tryd.prog w "strconv.ErrRange").isSome=true) (x r:List UInt8) (hx:x.length≤100000) (N H:Nat) (hN:N≤40) (B R:List Bool) (hR:R.length=N) (s:List UInt8) (v42:V) (L k:Nat) (Q2:V→VSt→Prop)
  (hgo:Q2 (.sc (.bool true)) ⟨(9,recO 0)::baseR N H B (setA N R x) r,10,0⟩):
  RoundV C.E c25a0 c25b0 [(0,strV s),(3,.ptr 0 0),(4,.ptr 1 0),(5,.sc (.int .i64 0)),(6,.ptr 2 0),(12,.ptr 5 0),(42,v42),(43,.sc (.int .i64 L)),(44,.sc (.int .i64 k))] [52] 9 [strV x] ⟨(9,recO 0)::baseR N H B R r,10,0⟩ Q2:=by
 have hRm:(R.map bD).length=N:=by rw[List.length_map,hR]
 refine ⟨Nat.zero_le _,rfl,Nat.lt_succ_self 9,_,rfl,fun C4 h4c h4n=>?_⟩
 have hcs:C4.E=EN w (n+6+1):=h4c.trans hC
 repeat' (first|(simp (disch:=first|omega|assumption|exact bd (by with_unfolding_all rfl)|exact Or.inl rfl|exact Or.inl trivial|exact okL_map _ (fun _=>rfl) _|(simp only[VVlen]<;>omega)|fail) only[O1,VV0,VV1,VV2,VV3,VV4,VV5,VV6,VV7,VV8,VV9,mkFnV,vargs,slotsL,opdsA,Nat.reduceEqDiff,Nat.reduceLT,Nat.reduceAdd,Nat.reduceBEq,Int.reduceAdd,Int.reduceSub,Int.reduceLT,Int.reduceLE,Int.reduceEq,Int.reduceNeg,↓reduceIte,reduceCtorEq,scL,scD,expand,List.replicate,c25a0,eqIf_ifc,eqIf_nil,eqIfA_nn])|((first|apply gI_dec|apply gG_dec|apply gPG_dec|apply gI_var|apply gG_var|apply gPG_var)<;>intro _))
 refine ⟨trivial,Nat.zero_le _,trivial,?_⟩
 repeat' (first|(simp (disch:=first|omega|assumption|exact bd (by with_unfolding_all rfl)|exact Or.inl rfl|exact Or.inl trivial|exact okL_map _ (fun _=>rfl) _|(simp only[VVlen]<;>omega)|fail) only[O1,VV0,VV1,VV2,VV3,VV4,VV5,VV6,VV7,VV8,VV9,mkFnV,vargs,slotsL,opdsA,Nat.reduceEqDiff,Nat.reduceLT,Nat.reduceAdd,Nat.reduceBEq,Int.reduceAdd,Int.reduceSub,Int.reduceLT,Int.reduceLE,Int.reduceEq,Int.reduceNeg,↓reduceIte,reduceCtorEq,scL,scD,expand,List.replicate,c25b0,eqIf_ifc,eqIf_nil,eqIfA_nn])|((first|apply gI_dec|apply gG_dec|apply gPG_dec|apply gI_var|apply gG_var|apply gPG_var)<;>intro _))
 have hset:setA N R x=match numA x with|some v=>if 1≤v∧v≤(N:Int) then R.set (v.toNat - 1) true else R|none=>R:=rfl
 refine atoi_any w (n+6) hcs x (by omega) hes her (fun v hv=>?_) (fun hv kv cv=>?_)
 ·rw[hv] at hset
  by_cases hvr:1≤v∧v≤(N:Int)
  ·rw[show (match some v with|some v=>if 1≤v∧v≤(N:Int) then R.set (v.toNat - 1) true else R|none=>R)=R.set (v.toNat - 1) true from if_pos hvr] at hset
   obtain ⟨v1,v2⟩:=hvr
   have hzn:(v - 1).toNat=v.toNat - 1:=by omega
   repeat' (first|(simp (disch:=first|omega|assumption|exact bd (by with_unfolding_all rfl)|exact Or.inl rfl|exact Or.inl trivial|exact okL_map _ (fun _=>rfl) _|(simp only[VVlen]<;>omega)|fail) only[O1,VV0,VV1,VV2,VV3,VV4,VV5,VV6,VV7,VV8,VV9,mkFnV,vargs,slotsL,opdsA,Nat.reduceEqDiff,Nat.reduceLT,Nat.reduceAdd,Nat.reduceBEq,Int.reduceAdd,Int.reduceSub,Int.reduceLT,Int.reduceLE,Int.reduceEq,Int.reduceNeg,↓reduceIte,reduceCtorEq,scL,scD,expand,List.replicate,baseR,eqIf_ifc,eqIf_nil,eqIfA_nn,hzn])|((first|apply gI_dec|apply gG_dec|apply gPG_dec|apply gI_var|apply gG_var|apply gPG_var)<;>intro _))
   all_goals try (exfalso;omega)
   refine ⟨Nat.zero_le _,trivial,_,.refl _ _,?_⟩
   have:=hgo
   rw[hset] at this
   simp only[baseR,List.map_set] at this
   exact this
  ·rw[show (match some v with|some v=>if 1≤v∧v≤(N:Int) then R.set (v.toNat - 1) true else R|none=>R)=R from if_neg hvr] at hset
   repeat' (first|(simp (disch:=first|omega|assumption|exact bd (by with_unfolding_all rfl)|exact Or.inl rfl|exact Or.inl trivial|exact okL_map _ (fun _=>rfl) _|(simp only[VVlen]<;>omega)|fail) only[O1,VV0,VV1,VV2,VV3,VV4,VV5,VV6,VV7,VV8,VV9,mkFnV,vargs,slotsL,opdsA,Nat.reduceEqDiff,Nat.reduceLT,Nat.reduceAdd,Nat.reduceBEq,Int.reduceAdd,Int.reduceSub,Int.reduceLT,Int.reduceLE,Int.reduceEq,Int.reduceNeg,↓reduceIte,reduceCtorEq,scL,scD,expand,List.replicate,baseR,eqIf_ifc,eqIf_nil,eqIfA_nn])|((first|apply gI_dec|apply gG_dec|apply gPG_dec|apply gI_var|apply gG_var|apply gPG_var)<;>intro _))
   all_goals try (exfalso;omega)
   all_goals (refine ⟨Nat.zero_le _,trivial,_,.refl _ _,?_⟩;have:=hgo;rw[hset] at this;exact this)
 ·rw[hv] at hset
  repeat' (first|(simp (disch:=first|omega|assumption|exact bd (by with_unfolding_all rfl)|exact Or.inl rfl|exact Or.inl trivial|exact okL_map _ (fun _=>rfl) _|(simp only[VVlen]<;>omega)|fail) only[O1,VV0,VV1,VV2,VV3,VV4,VV5,VV6,VV7,VV8,VV9,mkFnV,vargs,slotsL,opdsA,Nat.reduceEqDiff,Nat.reduceLT,Nat.reduceAdd,Nat.reduceBEq,Int.reduceAdd,Int.reduceSub,Int.reduceLT,Int.reduceLE,Int.reduceEq,Int.reduceNeg,↓reduceIte,reduceCtorEq,scL,scD,expand,List.replicate,baseR,eqIf_ifc,eqIf_nil,eqIfA_nn])|((first|apply gI_dec|apply gG_dec|apply gPG_dec|apply gI_var|apply gG_var|apply gPG_var)<;>intro _))
  have hh:=hgo
  rw[hset] at hh
  refine ⟨Nat.zero_le _,trivial,_,weak_toB [(9,9),(8,8),(7,7),(6,6),(5,5),(4,4),(3,3),(2,2),(1,1),(0,0)] 10 (by rw[h4n];exact Nat.le_refl _) rfl (by rw[h4n];rfl) rfl rfl,?_⟩
  exact hh
theorem cutSuf_no {c:UInt8} {s:List UInt8} (h:s.getLast? ≠ some c):cutSuf c s=(s,false):=if_neg h
theorem cutSuf_yes {c:UInt8} {s:List UInt8} (h:s.getLast? =some c):cutSuf c s=(s.dropLast,true):=if_pos h
theorem readE_p (s:List UInt8) (z:Int) (hz:z<1∨40<z):VSpec (EN w (n+1)) 25 [strV s,.sc (.int .i64 z)] (.tup [gridV 3 0 0 [],.sc (.int .i64 2)]) ⟨[],0,0⟩:=by
 refine vspec_g rfl rfl (fun _ _=>rfl) (Nat.le_of_ble_eq_true rfl) (oldVals w) retOK_finT3 rfl fun C hC h0=>?_
 repeat' (first|(simp (disch:=first|omega|assumption|exact bd (by with_unfolding_all rfl)|exact Or.inl rfl|exact Or.inl trivial|exact okL_map _ (fun _=>rfl) _|(simp only[VVlen]<;>omega)|fail) only[O1,VV0,VV1,VV2,VV3,VV4,VV5,VV6,VV7,VV8,VV9,mkFnV,vargs,slotsL,opdsA,Nat.reduceEqDiff,Nat.reduceLT,Nat.reduceAdd,Nat.reduceBEq,Int.reduceAdd,Int.reduceSub,Int.reduceLT,Int.reduceLE,Int.reduceEq,Int.reduceNeg,↓reduceIte,reduceCtorEq,scL,scD,expand,List.replicate,c25])|((first|apply gI_dec|apply gG_dec|apply gPG_dec|apply gI_var|apply gG_var|apply gPG_var)<;>intro _))
 all_goals try (exfalso;omega)
 all_goals exact weak_finT3Nil h0 rfl
theorem snap_grid {H:VHp} {o t:Nat} {z:Bool} {a b:Value} {B:List Bool} (h:aget H o=some (.gro t 1 z (B.map bD))):snapL H [.agg [.sc a,.sc b,.gr 2 o B.length]]=some [.agg [.sc a,.sc b,.sl 2 B.length (B.map bD)]]:=by
 have h1:=snap_grD (n:=B.length) h (by rw[List.length_map])
 generalize V.gr 2 o B.length=v at*
 simp[snapV,snapL,h1]
theorem bitsP_snoc (N:Nat) (ls:List (List UInt8)) (k:Nat) (hk:k<ls.length):bitsP N (ls.take (k+1))=bitsP N (ls.take k)++rowP N ls[k]! :=by
 rw[List.take_succ_eq_append_getElem hk,getElem!_pos ls k hk]
 unfold bitsP
 rw[List.map_append,List.flatten_append]
 simp
theorem bitsP_len (N:Nat) (ls:List (List UInt8)):(bitsP N ls).length=ls.length*N:=by
 unfold bitsP
 rw[flat_len _ (fun R hR=>by obtain ⟨x,_,rfl⟩:=List.mem_map.1 hR;exact rowP_len N x),List.length_map]
theorem foldl_take {α β:Type} (f:β→α→β) (b:β) (dn:List α) (x:α):(dn++ [x]).foldl f b=f (dn.foldl f b) x:=by simp
theorem chk_fit (N H:Nat) (L:Nat) (h1:1≤N∧N≤40) (h2:1≤H∧H≤64) (hL:L=N*H):chkE N H L=0:=by
 have e1:¬ ((64:Int)<N∨(64:Int)<H):=by omega
 have e2:¬ ((N:Int)<1∨(H:Int)<1):=by omega
 have e3:(L:Int)=(N:Int)*(H:Int):=by rw[hL];simp
 have e4:¬ (40:Int)<N:=by omega
 simp[chkE,chkG,e1,e2,e3,e4]
theorem read_range {C:Ctx} (hC:C.E=EN w (n+8)) (hes:(errO Tryd.prog w "strconv.ErrSyntax").isSome=true) (her:(errO Tryd.prog w "strconv.ErrRange").isSome=true) (x:List UInt8) (hx:x.length≤100000) (N k L:Nat) (hN:N≤40) (B:List Bool) (s:List UInt8) (v42:V) {K:List KF} {P:VPost}
  (h:∀ (r:List UInt8),gK C K .normal [(0,strV s),(3,.ptr 0 0),(4,.ptr 1 0),(5,.sc (.int .i64 0)),(6,.ptr 2 0),(12,.ptr 5 0),(42,v42),(43,.sc (.int .i64 L)),(44,.sc (.int .i64 k))] ⟨baseR N k B (rowP N x) r,10,0⟩ P):
  gC C (.rangeF (.tmp 51) [52] [0,3,4,5,6,12,42,43,44] c25a0 c25b0) K [(0,strV s),(3,.ptr 0 0),(4,.ptr 1 0),(5,.sc (.int .i64 0)),(6,.ptr 2 0),(12,.ptr 5 0),(42,v42),(43,.sc (.int .i64 L)),(44,.sc (.int .i64 k)),(51,.fn 74 [] [.ptr 7 0,.ptr 6 0,.ptr 8 0])] ⟨baseR N k B (List.replicate N false) x,9,0⟩ P:=by
 refine g_range hC rfl rfl rfl (Nat.le_of_ble_eq_true rfl) rfl (Nat.zero_le _) fun C2 h2n h2r h2p h2o hT=>?_
 refine split_iter (d:=9) (oP:=7) (oS:=6) (oV:=8) (c:=32) (s:=x) w (n+3)
  (fun dn r st=>st=⟨(9,recO 0)::baseR N k B (dn.foldl (setA N) (List.replicate N false)) r,10,0⟩)
  (fun st=>False) h2p h2o h2r (by omega) hT ?_ ?_ ?_ ?_ ?_ _ rfl
 ·rintro dn r st rfl
  exact ⟨rfl,rfl,rfl,Nat.zero_le _⟩
 ·rintro dn r y ws st Q2 hw hwr rfl hgo hstop
  have hym:y ∈ words 32 x:=by rw[hw,hwr];simp
  have hy:=(Go.Itp.words_len (c:=32) x.length (s:=x) (Nat.le_refl _)).2 y hym
  refine rd_round w (n+1) hC hes her y r (by omega) N k hN _ _ (by rw[fold_len];simp) s _ L k Q2 ?_
  refine hgo _ ?_
  rw[foldl_take]
 ·rintro dn r r' st rfl
  rfl
 ·rintro fr st r rfl
  exact ⟨fun i h=>(by cases h),Nat.zero_le _,0,.normal,rfl,rfl,h r⟩
 ·rintro ex fr st hex hf
  exact absurd hf id
theorem read_p (s:List UInt8) (N:Nat) (hl:s.length≤100000) (hN1:1≤N) (hN:N≤40) (hes:(errO Tryd.prog w "strconv.ErrSyntax").isSome=true) (her:(errO Tryd.prog w "strconv.ErrRange").isSome=true):VSpec (EN w (n+9)) 25 [strV s,.sc (.int .i64 N)] (readV N (preadF N s)) ⟨[],0,0⟩:=by
 refine vspec_g rfl rfl (fun _ _=>rfl) (Nat.le_of_ble_eq_true rfl) (oldVals w) (retOK_read _ _) rfl fun C hC h0=>?_
 have hsz:=mk_size s
 have hrn:C.E.rounds=many:=by rw[hC,callP_rounds]
 have hcut:=(cutSuf_p w (n+5) s 10 (by omega)).of hC rfl
 by_cases hg:s.getLast? =some 10
 case neg=>
  have e:preadF N s=none:=by unfold preadF;rw[if_neg (fun h=>hg h.2.1)]
  have hspl:=split_p w (n+2) s 10 (by omega)
  rw[cutSuf_no hg] at hcut
  rw[e]
  repeat' (first|(simp (disch:=first|omega|assumption|exact bd (by with_unfolding_all rfl)|exact Or.inl rfl|exact Or.inl trivial|exact okL_map _ (fun _=>rfl) _|(simp only[VVlen]<;>omega)|fail) only[O1,VV0,VV1,VV2,VV3,VV4,VV5,VV6,VV7,VV8,VV9,mkFnV,vargs,slotsL,opdsA,Nat.reduceEqDiff,Nat.reduceLT,Nat.reduceAdd,Nat.reduceBEq,Int.reduceAdd,Int.reduceSub,Int.reduceLT,Int.reduceLE,Int.reduceEq,Int.reduceNeg,↓reduceIte,reduceCtorEq,scL,scD,expand,List.replicate,c25])|((first|apply gI_dec|apply gG_dec|apply gPG_dec|apply gI_var|apply gG_var|apply gPG_var)<;>intro _))
  all_goals try (exfalso;omega)
  refine callV_flat (hcut _ rfl) ?_
  repeat' (first|(simp (disch:=first|omega|assumption|exact bd (by with_unfolding_all rfl)|exact Or.inl rfl|exact Or.inl trivial|exact okL_map _ (fun _=>rfl) _|(simp only[VVlen]<;>omega)|fail) only[O1,VV0,VV1,VV2,VV3,VV4,VV5,VV6,VV7,VV8,VV9,mkFnV,vargs,slotsL,opdsA,Nat.reduceEqDiff,Nat.reduceLT,Nat.reduceAdd,Nat.reduceBEq,Int.reduceAdd,Int.reduceSub,Int.reduceLT,Int.reduceLE,Int.reduceEq,Int.reduceNeg,↓reduceIte,reduceCtorEq,scL,scD,expand,List.replicate])|((first|apply gI_dec|apply gG_dec|apply gPG_dec|apply gI_var|apply gG_var|apply gPG_var)<;>intro _))
  refine callV_fin (by rw[hC];exact hspl) rfl rfl (fun _=>rfl) ?_
  repeat' (first|(simp (disch:=first|omega|assumption|exact bd (by with_unfolding_all rfl)|exact Or.inl rfl|exact Or.inl trivial|exact okL_map _ (fun _=>rfl) _|(simp only[VVlen]<;>omega)|fail) only[O1,VV0,VV1,VV2,VV3,VV4,VV5,VV6,VV7,VV8,VV9,mkFnV,vargs,slotsL,opdsA,Nat.reduceEqDiff,Nat.reduceLT,Nat.reduceAdd,Nat.reduceBEq,Int.reduceAdd,Int.reduceSub,Int.reduceLT,Int.reduceLE,Int.reduceEq,Int.reduceNeg,↓reduceIte,reduceCtorEq,scL,scD,expand,List.replicate])|((first|apply gI_dec|apply gG_dec|apply gPG_dec|apply gI_var|apply gG_var|apply gPG_var)<;>intro _))
  exact weak_finT3Nil h0 rfl
 rw[cutSuf_yes hg] at hcut
 have hsn:s ≠ []:=fun e=>by rw[e] at hg;cases hg
 have hdl:s.dropLast.length≤100000:=by rw[List.length_dropLast];omega
 have hspl:=split_p w (n+2) s.dropLast 10 (by omega)
 have hwn:=List.length_pos_iff.2 (words_ne 10 s.dropLast)
 have hwl:=Go.Itp.words_len (c:=10) s.dropLast.length (s:=s.dropLast) (Nat.le_refl _)
 have hpf:preadF N s=if (words 10 s.dropLast).length≤64∧planTo (bitsP N (words 10 s.dropLast)) N (words 10 s.dropLast).length=s then some (bitsP N (words 10 s.dropLast),(words 10 s.dropLast).length) else none:=by
  unfold preadF
  by_cases h:(words 10 s.dropLast).length≤64∧planTo (bitsP N (words 10 s.dropLast)) N (words 10 s.dropLast).length=s
  ·rw[if_pos h,if_pos ⟨hsn,hg,h.1,h.2⟩]
  ·rw[if_neg h,if_neg (fun h2=>h ⟨h2.2.2.1,h2.2.2.2⟩)]
 generalize hls:words 10 s.dropLast=ls at*
 by_cases h64:ls.length≤64
 case neg=>
  rw[if_neg (fun h=>h64 h.1)] at hpf
  rw[hpf]
  repeat' (first|(simp (disch:=first|omega|assumption|exact bd (by with_unfolding_all rfl)|exact Or.inl rfl|exact Or.inl trivial|exact okL_map _ (fun _=>rfl) _|(simp only[VVlen]<;>omega)|fail) only[O1,VV0,VV1,VV2,VV3,VV4,VV5,VV6,VV7,VV8,VV9,mkFnV,vargs,slotsL,opdsA,Nat.reduceEqDiff,Nat.reduceLT,Nat.reduceAdd,Nat.reduceBEq,Int.reduceAdd,Int.reduceSub,Int.reduceLT,Int.reduceLE,Int.reduceEq,Int.reduceNeg,↓reduceIte,reduceCtorEq,scL,scD,expand,List.replicate,c25])|((first|apply gI_dec|apply gG_dec|apply gPG_dec|apply gI_var|apply gG_var|apply gPG_var)<;>intro _))
  all_goals try (exfalso;omega)
  refine callV_flat (hcut _ rfl) ?_
  repeat' (first|(simp (disch:=first|omega|assumption|exact bd (by with_unfolding_all rfl)|exact Or.inl rfl|exact Or.inl trivial|exact okL_map _ (fun _=>rfl) _|(simp only[VVlen]<;>omega)|fail) only[O1,VV0,VV1,VV2,VV3,VV4,VV5,VV6,VV7,VV8,VV9,mkFnV,vargs,slotsL,opdsA,Nat.reduceEqDiff,Nat.reduceLT,Nat.reduceAdd,Nat.reduceBEq,Int.reduceAdd,Int.reduceSub,Int.reduceLT,Int.reduceLE,Int.reduceEq,Int.reduceNeg,↓reduceIte,reduceCtorEq,scL,scD,expand,List.replicate])|((first|apply gI_dec|apply gG_dec|apply gPG_dec|apply gI_var|apply gG_var|apply gPG_var)<;>intro _))
  refine callV_fin (by rw[hC];exact hspl) rfl rfl (fun _=>rfl) ?_
  repeat' (first|(simp (disch:=first|omega|assumption|exact bd (by with_unfolding_all rfl)|exact Or.inl rfl|exact Or.inl trivial|exact okL_map _ (fun _=>rfl) _|(simp only[VVlen]<;>omega)|fail) only[O1,VV0,VV1,VV2,VV3,VV4,VV5,VV6,VV7,VV8,VV9,mkFnV,vargs,slotsL,opdsA,Nat.reduceEqDiff,Nat.reduceLT,Nat.reduceAdd,Nat.reduceBEq,Int.reduceAdd,Int.reduceSub,Int.reduceLT,Int.reduceLE,Int.reduceEq,Int.reduceNeg,↓reduceIte,reduceCtorEq,scL,scD,expand,List.replicate])|((first|apply gI_dec|apply gG_dec|apply gPG_dec|apply gI_var|apply gG_var|apply gPG_var)<;>intro _))
  exact weak_finT3Nil h0 rfl
 have hlm:(ls.map sD).length=ls.length:=by rw[List.length_map]
 repeat' (first|(simp (disch:=first|omega|assumption|exact bd (by with_unfolding_all rfl)|exact Or.inl rfl|exact Or.inl trivial|exact okL_map _ (fun _=>rfl) _|(simp only[VVlen]<;>omega)|fail) only[O1,VV0,VV1,VV2,VV3,VV4,VV5,VV6,VV7,VV8,VV9,mkFnV,vargs,slotsL,opdsA,Nat.reduceEqDiff,Nat.reduceLT,Nat.reduceAdd,Nat.reduceBEq,Int.reduceAdd,Int.reduceSub,Int.reduceLT,Int.reduceLE,Int.reduceEq,Int.reduceNeg,↓reduceIte,reduceCtorEq,scL,scD,expand,List.replicate,c25])|((first|apply gI_dec|apply gG_dec|apply gPG_dec|apply gI_var|apply gG_var|apply gPG_var)<;>intro _))
 all_goals try (exfalso;omega)
 refine callV_flat (hcut _ rfl) ?_
 repeat' (first|(simp (disch:=first|omega|assumption|exact bd (by with_unfolding_all rfl)|exact Or.inl rfl|exact Or.inl trivial|exact okL_map _ (fun _=>rfl) _|(simp only[VVlen]<;>omega)|fail) only[O1,VV0,VV1,VV2,VV3,VV4,VV5,VV6,VV7,VV8,VV9,mkFnV,vargs,slotsL,opdsA,Nat.reduceEqDiff,Nat.reduceLT,Nat.reduceAdd,Nat.reduceBEq,Int.reduceAdd,Int.reduceSub,Int.reduceLT,Int.reduceLE,Int.reduceEq,Int.reduceNeg,↓reduceIte,reduceCtorEq,scL,scD,expand,List.replicate])|((first|apply gI_dec|apply gG_dec|apply gPG_dec|apply gI_var|apply gG_var|apply gPG_var)<;>intro _))
 refine callV_fin (by rw[hC];exact hspl) rfl rfl (fun _=>rfl) ?_
 repeat' (first|(simp (disch:=first|omega|assumption|exact bd (by with_unfolding_all rfl)|exact Or.inl rfl|exact Or.inl trivial|exact okL_map _ (fun _=>rfl) _|(simp only[VVlen]<;>omega)|fail) only[O1,VV0,VV1,VV2,VV3,VV4,VV5,VV6,VV7,VV8,VV9,mkFnV,vargs,slotsL,opdsA,Nat.reduceEqDiff,Nat.reduceLT,Nat.reduceAdd,Nat.reduceBEq,Int.reduceAdd,Int.reduceSub,Int.reduceLT,Int.reduceLE,Int.reduceEq,Int.reduceNeg,↓reduceIte,reduceCtorEq,scL,scD,expand,List.replicate])|((first|apply gI_dec|apply gG_dec|apply gPG_dec|apply gI_var|apply gG_var|apply gPG_var)<;>intro _))
 all_goals try (exfalso;omega)
 refine g_while (fun m fr st=>∃ k:Nat,m=ls.length - k∧k≤ls.length∧fr= [(0,strV s),(3,.ptr 0 0),(4,.ptr 1 0),(5,.sc (.int .i64 0)),(6,.ptr 2 0),(42,.sl 3 ls.length (ls.map sD)),(43,.sc (.int .i64 ls.length)),(44,.sc (.int .i64 k))]∧
   st=⟨[(3,.gro 4 1 false ((bitsP N (ls.take k)).map bD)),(2,.box 24 1 [.sc (.int .i64 N),.sc (.int .i64 k),.gr 2 3 (bitsP N (ls.take k)).length]),(1,.box 24 1 [.sc (.int .i64 0),.sc (.int .i64 0),.sc (.slice none 0 0)]),(0,.box 3 1 [.sc (.int .i64 N)])],4,0⟩) ls.length ?_
   ⟨_,_,weak_nilCell (l:= [.sc (.int .i64 N),.sc (.int .i64 0),.sc (.slice none 0 0)]) 2 24 1 2 4 1 rfl rfl (fun h=>absurd (show (2:Nat)=3 from h) (by decide)),0,rfl,Nat.zero_le _,rfl,rfl⟩ ?_
 ·rw[hrn];unfold many;omega
 rintro m fr st ⟨k,rfl,hk,rfl,rfl⟩
 by_cases hlt:k<ls.length
 case neg=>
  have:k=ls.length:=by omega
  subst this
  rw[List.take_length]
  have hBl:=bitsP_len N ls
  have hfit:=chk_fit N ls.length (bitsP N ls).length ⟨hN1,hN⟩ ⟨hwn,h64⟩ (by rw[hBl,Nat.mul_comm])
  have hplan:∀ (st:VSt) (xs:List V),snapL st.own xs=some [gridV 2 N ls.length (bitsP N ls)]→VSpecO C.E 11 st xs (.tup [strV (planTo (bitsP N ls) N ls.length),.sc (.int .i64 0)]):=fun st xs h=>by
   rw[hC]
   exact (plan_p w (n+3) 2 N ls.length (bitsP N ls) hfit ⟨hN1,hN⟩ ⟨hwn,h64⟩ (by rw[hBl,Nat.mul_comm])).flat rfl h
  generalize hB:bitsP N ls=B at*
  have hBm:(B.map bD).length=B.length:=by rw[List.length_map]
  have hsn2:=fun (H:VHp) (h:aget H 3=some (.gro 4 1 false (B.map bD)))=>snap_grid (a:= .int .i64 N) (b:= .int .i64 ls.length) h
  generalize planTo B N ls.length=T at*
  by_cases hT:T=s
  ·rw[if_pos ⟨h64,hT⟩] at hpf
   rw[hpf]
   repeat' (first|(simp (disch:=first|omega|assumption|exact bd (by with_unfolding_all rfl)|exact Or.inl rfl|exact Or.inl trivial|exact okL_map _ (fun _=>rfl) _|(simp only[VVlen]<;>omega)|fail) only[O1,VV0,VV1,VV2,VV3,VV4,VV5,VV6,VV7,VV8,VV9,mkFnV,vargs,slotsL,opdsA,Nat.reduceEqDiff,Nat.reduceLT,Nat.reduceAdd,Nat.reduceBEq,Int.reduceAdd,Int.reduceSub,Int.reduceLT,Int.reduceLE,Int.reduceEq,Int.reduceNeg,↓reduceIte,reduceCtorEq,scL,scD,expand,List.replicate,c25l0])|((first|apply gI_dec|apply gG_dec|apply gPG_dec|apply gI_var|apply gG_var|apply gPG_var)<;>intro _))
   all_goals try (exfalso;omega)
   refine callV_flat (hplan _ _ (hsn2 _ rfl)) ?_
   repeat' (first|(simp (disch:=first|omega|assumption|exact bd (by with_unfolding_all rfl)|exact Or.inl rfl|exact Or.inl trivial|exact okL_map _ (fun _=>rfl) _|(simp only[VVlen]<;>omega)|fail) only[O1,VV0,VV1,VV2,VV3,VV4,VV5,VV6,VV7,VV8,VV9,mkFnV,vargs,slotsL,opdsA,Nat.reduceEqDiff,Nat.reduceLT,Nat.reduceAdd,Nat.reduceBEq,Int.reduceAdd,Int.reduceSub,Int.reduceLT,Int.reduceLE,Int.reduceEq,Int.reduceNeg,↓reduceIte,reduceCtorEq,scL,scD,expand,List.replicate,mk_inj,hT])|((first|apply gI_dec|apply gG_dec|apply gPG_dec|apply gI_var|apply gG_var|apply gPG_var)<;>intro _))
   all_goals try (exfalso;omega)
   exact weak_finT3 (s:=2) (snap_grD rfl hBm) rfl (.inl (by decide)) h0 rfl
  ·rw[if_neg (fun h=>hT h.2)] at hpf
   rw[hpf]
   repeat' (first|(simp (disch:=first|omega|assumption|exact bd (by with_unfolding_all rfl)|exact Or.inl rfl|exact Or.inl trivial|exact okL_map _ (fun _=>rfl) _|(simp only[VVlen]<;>omega)|fail) only[O1,VV0,VV1,VV2,VV3,VV4,VV5,VV6,VV7,VV8,VV9,mkFnV,vargs,slotsL,opdsA,Nat.reduceEqDiff,Nat.reduceLT,Nat.reduceAdd,Nat.reduceBEq,Int.reduceAdd,Int.reduceSub,Int.reduceLT,Int.reduceLE,Int.reduceEq,Int.reduceNeg,↓reduceIte,reduceCtorEq,scL,scD,expand,List.replicate,c25l0])|((first|apply gI_dec|apply gG_dec|apply gPG_dec|apply gI_var|apply gG_var|apply gPG_var)<;>intro _))
   all_goals try (exfalso;omega)
   refine callV_flat (hplan _ _ (hsn2 _ rfl)) ?_
   repeat' (first|(simp (disch:=first|omega|assumption|exact bd (by with_unfolding_all rfl)|exact Or.inl rfl|exact Or.inl trivial|exact okL_map _ (fun _=>rfl) _|(simp only[VVlen]<;>omega)|fail) only[O1,VV0,VV1,VV2,VV3,VV4,VV5,VV6,VV7,VV8,VV9,mkFnV,vargs,slotsL,opdsA,Nat.reduceEqDiff,Nat.reduceLT,Nat.reduceAdd,Nat.reduceBEq,Int.reduceAdd,Int.reduceSub,Int.reduceLT,Int.reduceLE,Int.reduceEq,Int.reduceNeg,↓reduceIte,reduceCtorEq,scL,scD,expand,List.replicate,mk_inj,hT])|((first|apply gI_dec|apply gG_dec|apply gPG_dec|apply gI_var|apply gG_var|apply gPG_var)<;>intro _))
   all_goals try (exfalso;omega)
   exact weak_finT3Nil h0 rfl
 have hBs:=bitsP_snoc N ls k hlt
 have hBl:=bitsP_len N (ls.take k)
 rw[List.length_take,Nat.min_eq_left hk] at hBl
 have hBl2:(bitsP N (ls.take k)).length≤64*40:=by rw[hBl];exact Nat.mul_le_mul (by omega) hN
 have hrp:=rowP_len N ls[k]!
 have hx:=hwl.2 ls[k]! (by rw[getElem!_pos ls k hlt];exact List.getElem_mem hlt)
 have hfold:rowP N ls[k]! =(words 32 ls[k]!).foldl (setA N) (List.replicate N false):=rfl
 have hr0:List.replicate N (D.sc (Value.bool false))=(List.replicate N false).map bD:=by simp[bD]
 have hspq:=splitSeq_p w (n+6) ls[k]! 32
 generalize hx0:ls[k]! =x at*
 repeat' (first|(simp (disch:=first|omega|assumption|exact bd (by with_unfolding_all rfl)|exact Or.inl rfl|exact Or.inl trivial|exact okL_map _ (fun _=>rfl) _|(simp only[VVlen]<;>omega)|fail) only[O1,VV0,VV1,VV2,VV3,VV4,VV5,VV6,VV7,VV8,VV9,mkFnV,vargs,slotsL,opdsA,Nat.reduceEqDiff,Nat.reduceLT,Nat.reduceAdd,Nat.reduceBEq,Int.reduceAdd,Int.reduceSub,Int.reduceLT,Int.reduceLE,Int.reduceEq,Int.reduceNeg,↓reduceIte,reduceCtorEq,scL,scD,expand,List.replicate,c25l0,sD_dv,hx0])|((first|apply gI_dec|apply gG_dec|apply gPG_dec|apply gI_var|apply gG_var|apply gPG_var)<;>intro _))
 all_goals try (exfalso;omega)
 refine callV_of (by rw[hC];exact hspq) rfl rfl rfl ?_
 repeat' (first|(simp (disch:=first|omega|assumption|exact bd (by with_unfolding_all rfl)|exact Or.inl rfl|exact Or.inl trivial|exact okL_map _ (fun _=>rfl) _|(simp only[VVlen]<;>omega)|fail) only[O1,VV0,VV1,VV2,VV3,VV4,VV5,VV6,VV7,VV8,VV9,mkFnV,vargs,slotsL,opdsA,Nat.reduceEqDiff,Nat.reduceLT,Nat.reduceAdd,Nat.reduceBEq,Int.reduceAdd,Int.reduceSub,Int.reduceLT,Int.reduceLE,Int.reduceEq,Int.reduceNeg,↓reduceIte,reduceCtorEq,scL,scD,expand,List.replicate,vsh,vshL,shH,shO,fzSL,fzS])|((first|apply gI_dec|apply gG_dec|apply gPG_dec|apply gI_var|apply gG_var|apply gPG_var)<;>intro _))
 rw[hr0]
 refine read_range w n hC hes her x (by omega) N k ls.length hN _ s _ fun r=>?_
 generalize rowP N x=R at*
 have hRm:(R.map bD).length=N:=by rw[List.length_map,hrp]
 have hbt:((bitsP N (ls.take k)).map bD).length=(bitsP N (ls.take k)).length:=by rw[List.length_map]
 repeat' (first|(simp (disch:=first|omega|assumption|exact bd (by with_unfolding_all rfl)|exact Or.inl rfl|exact Or.inl trivial|exact okL_map _ (fun _=>rfl) _|(simp only[VVlen]<;>omega)|fail) only[O1,VV0,VV1,VV2,VV3,VV4,VV5,VV6,VV7,VV8,VV9,mkFnV,vargs,slotsL,opdsA,Nat.reduceEqDiff,Nat.reduceLT,Nat.reduceAdd,Nat.reduceBEq,Int.reduceAdd,Int.reduceSub,Int.reduceLT,Int.reduceLE,Int.reduceEq,Int.reduceNeg,↓reduceIte,reduceCtorEq,scL,scD,expand,List.replicate,baseR])|((first|apply gI_dec|apply gG_dec|apply gPG_dec|apply gI_var|apply gG_var|apply gPG_var)<;>intro _))
 refine ⟨_,_,_,by omega,weak_to [(10,3),(2,2),(1,1),(0,0)] 4 h0 rfl rfl rfl rfl,k+1,rfl,hlt,rfl,?_⟩
 rw[hBs,List.map_append,List.length_append,hrp]
 rfl
end
end Go.Proofs.YtepdkmdcainddaaDoor
namespace Go.Proofs.YtepdkmdcainddaaDoor
open Go Go.Itp
set_option maxRecDepth 100000
set_option maxHeartbeats 1000000
set_option linter.unusedSimpArgs false
def validS (q:Int) (L:List (List Bool)):Bool:=decide (1≤q∧q≤40∧2≤L.length∧L.length≤65∧∀ k,k<L.length→(L[k]!.length:Int)=q+1)
theorem lt_succ_cases {P:Nat→Prop} {k:Nat} (h:∀ j,j<k→P j) (hk:P k):∀ j,j<k+1→P j:=fun j hj=>by
 rcases Nat.lt_or_eq_of_le (Nat.le_of_lt_succ hj) with h1|h1
 ·exact h j h1
 ·subst h1;exact hk
section
variable (w:World) (n:Nat)
end
end Go.Proofs.YtepdkmdcainddaaDoor
namespace Go.Proofs.YtepdkmdcainddaaDoor
open Go Go.Itp
set_option maxRecDepth 100000
set_option maxHeartbeats 1000000
set_option linter.unusedSimpArgs false
set_option linter.unusedVariables false
theorem decode_small {s:ByteArray} {i:Nat} (h:(s.get! i).toNat<128):Utf8.decode s i=((s.get! i).toNat,1):=by
 unfold Utf8.decode
 simp only[Nat.add_zero]
 rw[if_pos h]
theorem decode_big {s:ByteArray} {i:Nat} (h:¬ (s.get! i).toNat<128):128≤(Utf8.decode s i).1:=by
 unfold Utf8.decode
 simp only[Nat.add_zero]
 rw[if_neg h]
 simp only[Bool.and_eq_true,decide_eq_true_eq]
 repeat' split
 all_goals simp only[Utf8.runeError]
 all_goals first|omega|(rename_i h1;have h2:=h1.1;omega)
theorem get_l (l:List UInt8) (i:Nat) (h:i<l.length):(ByteArray.mk l.toArray).get! i=l[i]! :=by
 have h1:(ByteArray.mk l.toArray).size=l.length:=by simp[ByteArray.size]
 show l.toArray[i]! =l[i]!
 simp
def parseP:List UInt8→List (List Bool)→List Bool→Option (List (List Bool) × List Bool)
 | [],cs,c=>some (cs,c)
 |b::r,cs,c=>if b=111∨b=46 then parseP r cs (c++ [decide (b=111)]) else if b=10 then parseP r (cs++ [c]) [] else none
def lastL (cs:List (List Bool)):Int:=match cs.getLast? with|some c=>(c.length:Int) - 1|none=>0
def parse18 (s:List UInt8):Option (Int × List (List Bool)):=match parseP s [] [] with
 |none=>none
 |some p=>if p.2= []∧validS (lastL p.1) p.1=true then some (lastL p.1,p.1) else none
def chainR:Option (Int × List (List Bool))→V
 |some p=> .tup [.agg [.sc (.int .i64 p.1),.sl 3 p.2.length (p.2.map (rowD 2))],.sc (.int .i64 0)]
 |none=> .tup [.agg [.sc (.int .i64 0),.sl 3 0 []],.sc (.int .i64 12)]
theorem retOK_chain (r:Option (Int × List (List Bool))):RetOK [] (chainR r):=by
 cases r<;>exact retOK_finA2
theorem valid_head {q:Int} {cs:List (List Bool)} (h:validS q cs=true):q=(cs[0]!.length:Int) - 1∧q=lastL cs:=by
 simp only[validS,decide_eq_true_eq] at h
 obtain ⟨_,_,h3,_,h5⟩:=h
 refine ⟨by have:=h5 0 (by omega);omega,?_⟩
 have h6:=h5 (cs.length - 1) (by omega)
 unfold lastL
 rw[List.getLast?_eq_getElem?,List.getElem?_eq_getElem (by omega)]
 rw[getElem!_pos cs _ (by omega)] at h6
 simp only
 omega
theorem valid_first (cs:List (List Bool)):validS ((cs[0]!.length:Int) - 1) cs=validS (lastL cs) cs:=by
 cases h1:validS ((cs[0]!.length:Int) - 1) cs with
 |true=>rw[← (valid_head h1).2,h1]
 |false=>
  cases h2:validS (lastL cs) cs with
  |true=>rw[← (valid_head h2).1,h2] at h1;cases h1
  |false=>rfl
def fIdx (F:Nat→Bool):Nat→Nat→Int
 |_,0=> -1
 |k,m+1=>if F k=true then k else fIdx F (k+1) m
theorem fIdx_neg (F:Nat→Bool):∀ m k,(0≤fIdx F k m)↔∃ j,k≤j∧j<k+m∧F j=true
 |0,k=>by simp only[fIdx];constructor;omega;rintro ⟨j,h1,h2,_⟩;omega
 |m+1,k=>by
  rw[fIdx]
  by_cases h:F k=true
  ·rw[if_pos h];exact ⟨fun _=>⟨k,by omega,by omega,h⟩,fun _=>by omega⟩
  ·rw[if_neg h,fIdx_neg F m (k+1)]
   constructor
   ·rintro ⟨j,h1,h2,h3⟩;exact ⟨j,by omega,by omega,h3⟩
   ·rintro ⟨j,h1,h2,h3⟩
    have:j ≠ k:=fun e=>h (e▸h3)
    exact ⟨j,by omega,by omega,h3⟩
section
variable (w:World) (n:Nat)
theorem validC_p (st:VSt) (o t e:Nat) (q:Int) (v:V) (s:Nat) (l:List Bool) (h1:aget st.own o=some (.box t e [.sc (.int .i64 q),v])) (hq: -10000000≤q∧q≤10000000) (hl:l.length≤10000000):
  VSpecO (EN w (n+1)) 66 st [.sl s l.length (l.map bD),.ptr o 0] (.sc (.bool (decide (¬ (l.length:Int)=q+1)))):=by
 refine vspecO_g rfl rfl (fun _ _=>rfl) (Nat.le_of_ble_eq_true rfl) rfl fun C hC h0=>⟨⟨st.own,st.next,st.next⟩,?_⟩
 repeat' (first|(simp (disch:=first|omega|assumption|exact bd (by with_unfolding_all rfl)|exact Or.inl rfl|exact Or.inl trivial|exact okL_map _ (fun _=>rfl) _|(simp only[VVlen]<;>omega)|fail) only[O1,VV0,VV1,VV2,VV3,VV4,VV5,VV6,VV7,VV8,VV9,mkFnV,vargs,slotsL,opdsA,Nat.reduceEqDiff,Nat.reduceLT,Nat.reduceAdd,Nat.reduceBEq,Int.reduceAdd,Int.reduceSub,Int.reduceLT,Int.reduceLE,Int.reduceEq,Int.reduceNeg,↓reduceIte,reduceCtorEq,scL,scD,expand,List.replicate,c66,h1])|((first|apply gI_dec|apply gG_dec|apply gPG_dec|apply gI_var|apply gG_var|apply gPG_var)<;>intro _))
 all_goals exact .refl _ _
theorem indexF_p (st:VSt) (s s':Nat) (L:List (List Bool)) (hL:L.length≤10000000) (f:FuncId) (caps:List V) (F:Nat→Bool) (h:∀ i:Nat,i<L.length→VSpecO (EN w n) f st (dv (rowD s' L[i]!)::caps) (.sc (.bool (F i)))):
  VSpecO (EN w (n+1)) 81 st [.sl s L.length (L.map (rowD s')),.fn f [] caps] (.sc (.int .i64 (fIdx F 0 L.length))):=by
 refine vspecO_g rfl rfl (fun _ _=>rfl) (Nat.le_of_ble_eq_true rfl) rfl fun C hC h0=>⟨⟨st.own,st.next,st.next⟩,?_⟩
 simp (disch:=first|omega|assumption|exact bd (by with_unfolding_all rfl)|exact Or.inl rfl|exact Or.inl trivial|exact okL_map _ (fun _=>rfl) _|(simp only[VVlen]<;>omega)|fail) only[O1,VV0,VV1,VV2,VV3,VV4,VV5,VV6,VV7,VV8,VV9,mkFnV,vargs,slotsL,opdsA,Nat.reduceEqDiff,Nat.reduceLT,Nat.reduceAdd,Nat.reduceBEq,Int.reduceAdd,Int.reduceSub,Int.reduceLT,Int.reduceLE,Int.reduceEq,Int.reduceNeg,↓reduceIte,reduceCtorEq,scL,scD,expand,List.replicate,c81]
 refine g_while (fun m fr t=>∃ k:Nat,m=L.length - k∧k≤L.length∧fIdx F 0 L.length=fIdx F k (L.length - k)∧fr= [(0,.sl s L.length (L.map (rowD s'))),(1,.fn f [] caps),(7,.sc (.int .i64 L.length)),(8,.sc (.int .i64 k))]∧t=⟨st.own,st.next,st.next⟩) L.length ?_ ⟨_,_,.refl _ _,0,?_⟩ ?_
 ·rw[hC,callP_rounds];unfold many;omega
 ·exact ⟨by omega,by omega,rfl,rfl,rfl⟩
 ·rintro m fr t ⟨k,rfl,hk,hf,rfl,rfl⟩
  by_cases hlt:k<L.length
  ·rw[show L.length - k=(L.length - (k+1))+1 by omega,fIdx] at hf
   have hh:=h k hlt
   have hlm:(L.map (rowD s')).length=L.length:=by rw[List.length_map]
   by_cases hb:F k=true
   ·rw[if_pos hb] at hf
    rw[hb] at hh
    rw[hf]
    repeat' (first|(simp (disch:=first|omega|assumption|exact bd (by with_unfolding_all rfl)|exact Or.inl rfl|exact Or.inl trivial|exact okL_map _ (fun _=>rfl) _|(simp only[VVlen]<;>omega)|fail) only[O1,VV0,VV1,VV2,VV3,VV4,VV5,VV6,VV7,VV8,VV9,mkFnV,vargs,slotsL,opdsA,Nat.reduceEqDiff,Nat.reduceLT,Nat.reduceAdd,Nat.reduceBEq,Int.reduceAdd,Int.reduceSub,Int.reduceLT,Int.reduceLE,Int.reduceEq,Int.reduceNeg,↓reduceIte,reduceCtorEq,scL,scD,expand,List.replicate,c81l0])|((first|apply gI_dec|apply gG_dec|apply gPG_dec|apply gI_var|apply gG_var|apply gPG_var)<;>intro _))
    refine callV_flat (v:= .sc (.bool true)) (by rw[hC];exact hh) ?_
    repeat' (first|(simp (disch:=first|omega|assumption|exact bd (by with_unfolding_all rfl)|exact Or.inl rfl|exact Or.inl trivial|exact okL_map _ (fun _=>rfl) _|(simp only[VVlen]<;>omega)|fail) only[O1,VV0,VV1,VV2,VV3,VV4,VV5,VV6,VV7,VV8,VV9,mkFnV,vargs,slotsL,opdsA,Nat.reduceEqDiff,Nat.reduceLT,Nat.reduceAdd,Nat.reduceBEq,Int.reduceAdd,Int.reduceSub,Int.reduceLT,Int.reduceLE,Int.reduceEq,Int.reduceNeg,↓reduceIte,reduceCtorEq,scL,scD,expand,List.replicate])|((first|apply gI_dec|apply gG_dec|apply gPG_dec|apply gI_var|apply gG_var|apply gPG_var)<;>intro _))
    exact .refl _ _
   ·rw[if_neg hb] at hf
    rw[Bool.eq_false_iff.2 hb] at hh
    repeat' (first|(simp (disch:=first|omega|assumption|exact bd (by with_unfolding_all rfl)|exact Or.inl rfl|exact Or.inl trivial|exact okL_map _ (fun _=>rfl) _|(simp only[VVlen]<;>omega)|fail) only[O1,VV0,VV1,VV2,VV3,VV4,VV5,VV6,VV7,VV8,VV9,mkFnV,vargs,slotsL,opdsA,Nat.reduceEqDiff,Nat.reduceLT,Nat.reduceAdd,Nat.reduceBEq,Int.reduceAdd,Int.reduceSub,Int.reduceLT,Int.reduceLE,Int.reduceEq,Int.reduceNeg,↓reduceIte,reduceCtorEq,scL,scD,expand,List.replicate,c81l0])|((first|apply gI_dec|apply gG_dec|apply gPG_dec|apply gI_var|apply gG_var|apply gPG_var)<;>intro _))
    refine callV_flat (v:= .sc (.bool false)) (by rw[hC];exact hh) ?_
    repeat' (first|(simp (disch:=first|omega|assumption|exact bd (by with_unfolding_all rfl)|exact Or.inl rfl|exact Or.inl trivial|exact okL_map _ (fun _=>rfl) _|(simp only[VVlen]<;>omega)|fail) only[O1,VV0,VV1,VV2,VV3,VV4,VV5,VV6,VV7,VV8,VV9,mkFnV,vargs,slotsL,opdsA,Nat.reduceEqDiff,Nat.reduceLT,Nat.reduceAdd,Nat.reduceBEq,Int.reduceAdd,Int.reduceSub,Int.reduceLT,Int.reduceLE,Int.reduceEq,Int.reduceNeg,↓reduceIte,reduceCtorEq,scL,scD,expand,List.replicate])|((first|apply gI_dec|apply gG_dec|apply gPG_dec|apply gI_var|apply gG_var|apply gPG_var)<;>intro _))
    exact ⟨_,_,_,by omega,.refl _ _,k+1,rfl,hlt,hf,rfl,rfl⟩
  ·have:k=L.length:=by omega
   subst this
   rw[hf,Nat.sub_self,fIdx]
   repeat' (first|(simp (disch:=first|omega|assumption|exact bd (by with_unfolding_all rfl)|exact Or.inl rfl|exact Or.inl trivial|exact okL_map _ (fun _=>rfl) _|(simp only[VVlen]<;>omega)|fail) only[O1,VV0,VV1,VV2,VV3,VV4,VV5,VV6,VV7,VV8,VV9,mkFnV,vargs,slotsL,opdsA,Nat.reduceEqDiff,Nat.reduceLT,Nat.reduceAdd,Nat.reduceBEq,Int.reduceAdd,Int.reduceSub,Int.reduceLT,Int.reduceLE,Int.reduceEq,Int.reduceNeg,↓reduceIte,reduceCtorEq,scL,scD,expand,List.replicate,c81l0])|((first|apply gI_dec|apply gG_dec|apply gPG_dec|apply gI_var|apply gG_var|apply gPG_var)<;>intro _))
   exact .refl _ _
theorem containsF_p (st:VSt) (s s':Nat) (L:List (List Bool)) (hL:L.length≤10000000) (f:FuncId) (caps:List V) (F:Nat→Bool) (h:∀ (st':VSt),st'.own=st.own→∀ i:Nat,i<L.length→VSpecO (EN w n) f st' (dv (rowD s' L[i]!)::caps) (.sc (.bool (F i)))):
  VSpecO (EN w (n+2)) 65 st [.sl s L.length (L.map (rowD s')),.fn f [] caps] (.sc (.bool (decide (0≤fIdx F 0 L.length)))):=by
 refine vspecO_g rfl rfl (fun _ _=>rfl) (Nat.le_of_ble_eq_true rfl) rfl fun C hC h0=>⟨⟨st.own,st.next,st.next⟩,?_⟩
 simp (disch:=first|omega|assumption|exact bd (by with_unfolding_all rfl)|exact Or.inl rfl|exact Or.inl trivial|exact okL_map _ (fun _=>rfl) _|(simp only[VVlen]<;>omega)|fail) only[O1,VV0,VV1,VV2,VV3,VV4,VV5,VV6,VV7,VV8,VV9,mkFnV,vargs,slotsL,opdsA,Nat.reduceEqDiff,Nat.reduceLT,Nat.reduceAdd,Nat.reduceBEq,Int.reduceAdd,Int.reduceSub,Int.reduceLT,Int.reduceLE,Int.reduceEq,Int.reduceNeg,↓reduceIte,reduceCtorEq,scL,scD,expand,List.replicate,c65]
 refine callV_flat (by rw[hC];exact indexF_p w n _ s s' L hL f caps F (h _ rfl)) ?_
 repeat' (first|(simp (disch:=first|omega|assumption|exact bd (by with_unfolding_all rfl)|exact Or.inl rfl|exact Or.inl trivial|exact okL_map _ (fun _=>rfl) _|(simp only[VVlen]<;>omega)|fail) only[O1,VV0,VV1,VV2,VV3,VV4,VV5,VV6,VV7,VV8,VV9,mkFnV,vargs,slotsL,opdsA,Nat.reduceEqDiff,Nat.reduceLT,Nat.reduceAdd,Nat.reduceBEq,Int.reduceAdd,Int.reduceSub,Int.reduceLT,Int.reduceLE,Int.reduceEq,Int.reduceNeg,↓reduceIte,reduceCtorEq,scL,scD,expand,List.replicate])|((first|apply gI_dec|apply gG_dec|apply gPG_dec|apply gI_var|apply gG_var|apply gPG_var)<;>intro _))
 exact .refl _ _
theorem valid_p (s s':Nat) (q:Int) (L:List (List Bool)) (hs:s ≠ 1) (hL:L.length≤1000000) (hr:∀ k,k<L.length→L[k]!.length≤1000000) (hq: -1000000≤q∧q≤1000000):VSpec (EN w (n+4)) 52 [chainV s s' q L] (.sc (.bool (validS q L))) ⟨[],0,0⟩:=by
 refine vspec_flat rfl rfl (fun _ _=>rfl) (Nat.le_of_ble_eq_true rfl) (oldVals w) rfl fun C hC h0=>?_
 by_cases h1:1≤q∧q≤40∧2≤L.length∧L.length≤65
 case neg=>
  have e:validS q L=false:=by
   simp only[validS,decide_eq_false_iff_not];exact fun h=>h1 ⟨h.1,h.2.1,h.2.2.1,h.2.2.2.1⟩
  rw[e]
  repeat' (first|(simp (disch:=first|omega|assumption|exact bd (by with_unfolding_all rfl)|exact Or.inl rfl|exact Or.inl trivial|exact okL_map _ (fun _=>rfl) _|(simp only[VVlen]<;>omega)|fail) only[O1,VV0,VV1,VV2,VV3,VV4,VV5,VV6,VV7,VV8,VV9,mkFnV,vargs,slotsL,opdsA,Nat.reduceEqDiff,Nat.reduceLT,Nat.reduceAdd,Nat.reduceBEq,Int.reduceAdd,Int.reduceSub,Int.reduceLT,Int.reduceLE,Int.reduceEq,Int.reduceNeg,↓reduceIte,reduceCtorEq,scL,scD,expand,List.replicate,c52])|((first|apply gI_dec|apply gG_dec|apply gPG_dec|apply gI_var|apply gG_var|apply gPG_var)<;>intro _))
  all_goals try (exfalso;omega)
  all_goals exact weak_flat rfl h0 rfl
 have e:validS q L= !decide (0≤fIdx (fun k=>decide (¬ (L[k]!.length:Int)=q+1)) 0 L.length):=by
  rw[Bool.eq_iff_iff,Bool.not_eq_true',decide_eq_false_iff_not,fIdx_neg]
  simp only[validS,decide_eq_true_eq]
  constructor
  ·rintro ⟨_,_,_,_,h⟩ ⟨j,_,h2,h3⟩
   exact h3 (h j (by omega))
  ·intro h
   refine ⟨h1.1,h1.2.1,h1.2.2.1,h1.2.2.2,fun k hk=>?_⟩
   by_cases hh:(L[k]!.length:Int)=q+1
   ·exact hh
   ·exact absurd ⟨k,by omega,by omega,hh⟩ h
 rw[e]
 repeat' (first|(simp (disch:=first|omega|assumption|exact bd (by with_unfolding_all rfl)|exact Or.inl rfl|exact Or.inl trivial|exact okL_map _ (fun _=>rfl) _|(simp only[VVlen]<;>omega)|fail) only[O1,VV0,VV1,VV2,VV3,VV4,VV5,VV6,VV7,VV8,VV9,mkFnV,vargs,slotsL,opdsA,Nat.reduceEqDiff,Nat.reduceLT,Nat.reduceAdd,Nat.reduceBEq,Int.reduceAdd,Int.reduceSub,Int.reduceLT,Int.reduceLE,Int.reduceEq,Int.reduceNeg,↓reduceIte,reduceCtorEq,scL,scD,expand,List.replicate,c52])|((first|apply gI_dec|apply gG_dec|apply gPG_dec|apply gI_var|apply gG_var|apply gPG_var)<;>intro _))
 all_goals try (exfalso;omega)
 refine callV_flat (by
  rw[hC]
  exact containsF_p w (n+1) _ s s' L (by omega) 66 [.ptr 0 0] (fun k=>decide (¬ (L[k]!.length:Int)=q+1)) fun st' hst i hi=>validC_p w n st' 0 34 1 q _ s' L[i]! (by rw[hst];rfl) ⟨by omega,by omega⟩ (by have:=hr i hi;omega)) ?_
 repeat' (first|(simp (disch:=first|omega|assumption|exact bd (by with_unfolding_all rfl)|exact Or.inl rfl|exact Or.inl trivial|exact okL_map _ (fun _=>rfl) _|(simp only[VVlen]<;>omega)|fail) only[O1,VV0,VV1,VV2,VV3,VV4,VV5,VV6,VV7,VV8,VV9,mkFnV,vargs,slotsL,opdsA,Nat.reduceEqDiff,Nat.reduceLT,Nat.reduceAdd,Nat.reduceBEq,Int.reduceAdd,Int.reduceSub,Int.reduceLT,Int.reduceLE,Int.reduceEq,Int.reduceNeg,↓reduceIte,reduceCtorEq,scL,scD,expand,List.replicate])|((first|apply gI_dec|apply gG_dec|apply gPG_dec|apply gI_var|apply gG_var|apply gPG_var)<;>intro _))
 exact weak_flat rfl h0 rfl
end
end Go.Proofs.YtepdkmdcainddaaDoor
namespace Go.Proofs.YtepdkmdcainddaaDoor
open Go Go.Itp
set_option maxRecDepth 100000
set_option maxHeartbeats 2000000
set_option linter.unusedSimpArgs false
set_option linter.unusedVariables false
theorem snap_agg2 {H:VHp} {o n:Nat} {t:TypeId} {z:Bool} {a:Value} {l:List D} (h:aget H o=some (.gro t 1 z l)) (hl:l.length=n):snapL H [.agg [.sc a,.gr 2 o n]]=some [.agg [.sc a,.sl 2 n l]]:=by
 have h1:=snap_grD (n:=n) h hl
 generalize V.gr 2 o n=v at*
 simp[snapV,snapL,h1]
theorem at_mid (p r:List UInt8) (b:UInt8):(p++b::r)[p.length]! =b:=by
 rw[getElem!_pos _ _ (by simp),List.getElem_append_right (Nat.le_refl _)]
 simp
theorem u8_eq (b:UInt8) (k:Nat) (hk:k<256):(((b.toNat:Nat):Int)=(k:Int))↔b=UInt8.ofNat k:=by
 constructor
 ·intro h
  apply UInt8.toNat_inj.1
  rw[UInt8.toNat_ofNat']
  omega
 ·rintro rfl
  rw[UInt8.toNat_ofNat']
  omega
theorem rowD_snoc (cs:List (List Bool)) (c:List Bool):(cs++ [c]).map (rowD 2)=cs.map (rowD 2)++ [D.sl 2 c.length (c.map bD)]:=by simp[rowD]
section
variable (w:World) (n:Nat)
end
end Go.Proofs.YtepdkmdcainddaaDoor
namespace Go.Proofs.YtepdkmdcainddaaDoor
open Go Go.Itp
set_option maxRecDepth 100000
set_option maxHeartbeats 2000000
set_option linter.unusedSimpArgs false
set_option linter.unusedVariables false
theorem eqNilS_gr0 (g:Bool) (o:Nat):eqNilV 1 g (.gr 2 o 0) (.sc (.slice none 0 0))=some (.sc (.bool (!g))):=by
 rw[eqNilV_nil g _ (Nat.beq 0 0) rfl]
 cases g<;>rfl
theorem get_pos (s p r:List UInt8) (b:UInt8) (hs:s=p++b::r):(ByteArray.mk s.toArray).get! p.length=b:=by
 rw[get_l s p.length (by rw[hs];simp),hs,at_mid]
theorem next_small (s p r:List UInt8) (b:UInt8) (hs:s=p++b::r) (hb:b.toNat<128) (hl:s.length≤100000) (H:VHp) (nx o:Nat) (ho:aget H o=some (itO ⟨s.toArray⟩ p.length)):
  vnext ⟨H,nx,0⟩ (.ptr o 0)=some (.tup [.sc (.bool true),.sc (.int .i64 p.length),.sc (.int .i32 b.toNat)],⟨aset H o (itO ⟨s.toArray⟩ (p.length+1)),nx,0⟩):=by
 have hsz:=mk_size s
 have hpl:s.length=p.length+(r.length+1):=by rw[hs];simp
 have hd:=decode_small (s:=⟨s.toArray⟩) (i:=p.length) (by rw[get_pos s p r b hs];exact hb)
 rw[get_pos s p r b hs] at hd
 have:=vnext_more (st:=⟨H,nx,0⟩) o ⟨s.toArray⟩ p.length ho (Nat.zero_le _) (by omega) (by omega)
 rw[hd] at this
 exact this
theorem next_big (s p r:List UInt8) (b:UInt8) (hs:s=p++b::r) (hb:¬ b.toNat<128) (hl:s.length≤100000) (H:VHp) (nx o:Nat) (ho:aget H o=some (itO ⟨s.toArray⟩ p.length)):
  ∃ u k:Nat,128≤u∧vnext ⟨H,nx,0⟩ (.ptr o 0)=some (.tup [.sc (.bool true),.sc (.int .i64 p.length),.sc (.int .i32 u)],⟨aset H o (itO ⟨s.toArray⟩ k),nx,0⟩):=by
 have hsz:=mk_size s
 have hpl:s.length=p.length+(r.length+1):=by rw[hs];simp
 have hd:=decode_big (s:=⟨s.toArray⟩) (i:=p.length) (by rw[get_pos s p r b hs];exact hb)
 exact ⟨_,_,hd,vnext_more (st:=⟨H,nx,0⟩) o ⟨s.toArray⟩ p.length ho (Nat.zero_le _) (by omega) (by omega)⟩
theorem next_end (s:List UInt8) (hl:s.length≤100000) (H:VHp) (nx o:Nat) (ho:aget H o=some (itO ⟨s.toArray⟩ s.length)):vnext ⟨H,nx,0⟩ (.ptr o 0)=some (.tup [.sc (.bool false)],⟨H,nx,0⟩):=by
 have hsz:=mk_size s
 exact vnext_end (st:=⟨H,nx,0⟩) o ⟨s.toArray⟩ s.length ho (Nat.zero_le _) (by omega) (by omega) (by omega)
abbrev chnH (g:Nat) (s:List UInt8) (pos:Nat) (cs:List (List Bool)) (c:List Bool):VHp:=
 [(4,.gro 4 1 false (c.map bD)),(3,.gro 22 1 false (cs.map (rowD 2))),(2,itO ⟨s.toArray⟩ pos),(1,.box 34 1 [.sc (.int .i64 0),.gr 2 3 cs.length]),(0,.box 34 1 [.sc (.int .i64 0),.sc (.slice none 0 0)])]
section
variable (w:World) (n:Nat)
theorem parse_p (s:List UInt8) (hl:s.length≤100000):VSpec (EN w (n+5)) 27 [strV s] (chainR (parse18 s)) ⟨[],0,0⟩:=by
 refine vspec_g rfl rfl (fun _ _=>rfl) (Nat.le_of_ble_eq_true rfl) (oldVals w) (retOK_chain _) rfl fun C hC h0=>?_
 have hsz:=mk_size s
 have hrn:C.E.rounds=many:=by rw[hC,callP_rounds]
 have hrs:=fun nx=>rangeSV_str nx ⟨s.toArray⟩ (by omega)
 repeat' (first|(simp (disch:=first|omega|assumption|exact bd (by with_unfolding_all rfl)|exact Or.inl rfl|exact Or.inl trivial|exact okL_map _ (fun _=>rfl) _|(simp only[VVlen]<;>omega)|fail) only[O1,VV0,VV1,VV2,VV3,VV4,VV5,VV6,VV7,VV8,VV9,mkFnV,vargs,slotsL,opdsA,Nat.reduceEqDiff,Nat.reduceLT,Nat.reduceAdd,Nat.reduceBEq,Int.reduceAdd,Int.reduceSub,Int.reduceLT,Int.reduceLE,Int.reduceEq,Int.reduceNeg,↓reduceIte,reduceCtorEq,scL,scD,expand,List.replicate,c27,pv_rangeS,hrs])|((first|apply gI_dec|apply gG_dec|apply gPG_dec|apply gI_var|apply gG_var|apply gPG_var)<;>intro _))
 refine g_while (fun m fr st=>∃ (cs:List (List Bool)) (c:List Bool) (p r:List UInt8),m=r.length∧s=p++r∧cs.length+c.length≤p.length∧(∀ k,k<cs.length→cs[k]!.length≤100000)∧parseP s [] []=parseP r cs c∧fr= [(2,.ptr 0 0),(4,.ptr 1 0),(5,.gr 2 4 c.length),(9,.ptr 2 0)]∧
   st=⟨chnH 0 s p.length cs c,5,0⟩) s.length ?_
   ⟨_,_,(weak_nilCell (C:=C) (l:= [.sc (.int .i64 0),.sc (.slice none 0 0)]) 1 34 1 1 22 1 rfl rfl (fun h=>absurd (show (1:Nat)=3 from h) (by decide))).trans (weak_nilSlot 5 4 1 rfl),[],[],[],s,rfl,rfl,Nat.le_refl _,fun k hk=>absurd hk (Nat.not_lt_zero _),rfl,rfl,rfl⟩ ?_
 ·rw[hrn];unfold many;omega
 rintro m fr st ⟨cs,c,p,r,rfl,hs,hcl,hcb,hps,rfl,rfl⟩
 have hpl:s.length=p.length+r.length:=by rw[hs];simp
 have hcm:(cs.map (rowD 2)).length=cs.length:=by rw[List.length_map]
 have hcm2:(c.map bD).length=c.length:=by rw[List.length_map]
 cases r with
 |nil=>
  have hq0:([]:List UInt8).length=0:=rfl
  have hnx:=next_end s hl (chnH 0 s p.length cs c) 5 2 (by rw[show s.length=p.length by omega];rfl)
  have hps2:parse18 s=if c= []∧validS (lastL cs) cs=true then some (lastL cs,cs) else none:=by
   unfold parse18
   rw[hps]
   rfl
  by_cases hc:c= []
  case neg=>
   have hcn:c.length ≠ 0:=fun e=>hc (List.eq_nil_of_length_eq_zero e)
   rw[if_neg (fun h=>hc h.1)] at hps2
   rw[hps2]
   repeat' (first|(simp (disch:=first|omega|assumption|exact bd (by with_unfolding_all rfl)|exact Or.inl rfl|exact Or.inl trivial|exact okL_map _ (fun _=>rfl) _|(simp only[VVlen]<;>omega)|fail) only[O1,VV0,VV1,VV2,VV3,VV4,VV5,VV6,VV7,VV8,VV9,mkFnV,vargs,slotsL,opdsA,Nat.reduceEqDiff,Nat.reduceLT,Nat.reduceAdd,Nat.reduceBEq,Int.reduceAdd,Int.reduceSub,Int.reduceLT,Int.reduceLE,Int.reduceEq,Int.reduceNeg,↓reduceIte,reduceCtorEq,scL,scD,expand,List.replicate,c27l0,pv_nextS,wv_nextS,hnx,eqNilS_gr])|((first|apply gI_dec|apply gG_dec|apply gPG_dec|apply gI_var|apply gG_var|apply gPG_var)<;>intro _))
   exact weak_finA2Nil h0 rfl
  subst hc
  have hc0:([]:List Bool).length=0:=rfl
  by_cases hcs:cs= []
  ·subst hcs
   rw[hps2,if_neg (fun h=>absurd h.2 (by decide))]
   repeat' (first|(simp (disch:=first|omega|assumption|exact bd (by with_unfolding_all rfl)|exact Or.inl rfl|exact Or.inl trivial|exact okL_map _ (fun _=>rfl) _|(simp only[VVlen]<;>omega)|fail) only[O1,VV0,VV1,VV2,VV3,VV4,VV5,VV6,VV7,VV8,VV9,mkFnV,vargs,slotsL,opdsA,Nat.reduceEqDiff,Nat.reduceLT,Nat.reduceAdd,Nat.reduceBEq,Int.reduceAdd,Int.reduceSub,Int.reduceLT,Int.reduceLE,Int.reduceEq,Int.reduceNeg,↓reduceIte,reduceCtorEq,scL,scD,expand,List.replicate,c27l0,pv_nextS,wv_nextS,hnx,eqNilS_gr0])|((first|apply gI_dec|apply gG_dec|apply gPG_dec|apply gI_var|apply gG_var|apply gPG_var)<;>intro _))
   exact weak_finA2Nil h0 rfl
  have hcsl:=List.length_pos_iff.2 hcs
  have hcb0:=hcb 0 hcsl
  have hvp:=valid_p w n 2 2 ((cs[0]!.length:Int) - 1) cs (by decide) (by omega) (fun k hk=>by have:=hcb k hk;omega) ⟨by omega,by omega⟩
  have hvf:=valid_first cs
  have hsn:=fun (H:VHp) (h:aget H 3=some (.gro 22 1 false (cs.map (rowD 2))))=>snap_agg2 (a:= .int .i64 ((cs[0]!.length:Int) - 1)) h hcm
  by_cases hv:validS (lastL cs) cs=true
  ·rw[if_pos ⟨rfl,hv⟩] at hps2
   have hq:=(valid_head hv).1
   rw[hvf,hv] at hvp
   rw[hps2]
   repeat' (first|(simp (disch:=first|omega|assumption|exact bd (by with_unfolding_all rfl)|exact Or.inl rfl|exact Or.inl trivial|exact okL_map _ (fun _=>rfl) _|(simp only[VVlen]<;>omega)|fail) only[O1,VV0,VV1,VV2,VV3,VV4,VV5,VV6,VV7,VV8,VV9,mkFnV,vargs,slotsL,opdsA,Nat.reduceEqDiff,Nat.reduceLT,Nat.reduceAdd,Nat.reduceBEq,Int.reduceAdd,Int.reduceSub,Int.reduceLT,Int.reduceLE,Int.reduceEq,Int.reduceNeg,↓reduceIte,reduceCtorEq,scL,scD,expand,List.replicate,c27l0,pv_nextS,wv_nextS,hnx,eqNilS_gr0,rowD_dv,Int.toNat_zero])|((first|apply gI_dec|apply gG_dec|apply gPG_dec|apply gI_var|apply gG_var|apply gPG_var)<;>intro _))
   all_goals try (exfalso;omega)
   refine callV_flat (by rw[hC];exact hvp.flat rfl (hsn _ rfl)) ?_
   repeat' (first|(simp (disch:=first|omega|assumption|exact bd (by with_unfolding_all rfl)|exact Or.inl rfl|exact Or.inl trivial|exact okL_map _ (fun _=>rfl) _|(simp only[VVlen]<;>omega)|fail) only[O1,VV0,VV1,VV2,VV3,VV4,VV5,VV6,VV7,VV8,VV9,mkFnV,vargs,slotsL,opdsA,Nat.reduceEqDiff,Nat.reduceLT,Nat.reduceAdd,Nat.reduceBEq,Int.reduceAdd,Int.reduceSub,Int.reduceLT,Int.reduceLE,Int.reduceEq,Int.reduceNeg,↓reduceIte,reduceCtorEq,scL,scD,expand,List.replicate])|((first|apply gI_dec|apply gG_dec|apply gPG_dec|apply gI_var|apply gG_var|apply gPG_var)<;>intro _))
   rw[← hq]
   exact weak_finA2 (s:=2) (snap_grD rfl hcm) rfl (.inl (by decide)) h0 rfl
  ·rw[if_neg (fun h=>hv h.2)] at hps2
   rw[hvf,Bool.eq_false_iff.2 hv] at hvp
   rw[hps2]
   repeat' (first|(simp (disch:=first|omega|assumption|exact bd (by with_unfolding_all rfl)|exact Or.inl rfl|exact Or.inl trivial|exact okL_map _ (fun _=>rfl) _|(simp only[VVlen]<;>omega)|fail) only[O1,VV0,VV1,VV2,VV3,VV4,VV5,VV6,VV7,VV8,VV9,mkFnV,vargs,slotsL,opdsA,Nat.reduceEqDiff,Nat.reduceLT,Nat.reduceAdd,Nat.reduceBEq,Int.reduceAdd,Int.reduceSub,Int.reduceLT,Int.reduceLE,Int.reduceEq,Int.reduceNeg,↓reduceIte,reduceCtorEq,scL,scD,expand,List.replicate,c27l0,pv_nextS,wv_nextS,hnx,eqNilS_gr0,rowD_dv,Int.toNat_zero])|((first|apply gI_dec|apply gG_dec|apply gPG_dec|apply gI_var|apply gG_var|apply gPG_var)<;>intro _))
   all_goals try (exfalso;omega)
   refine callV_flat (by rw[hC];exact hvp.flat rfl (hsn _ rfl)) ?_
   repeat' (first|(simp (disch:=first|omega|assumption|exact bd (by with_unfolding_all rfl)|exact Or.inl rfl|exact Or.inl trivial|exact okL_map _ (fun _=>rfl) _|(simp only[VVlen]<;>omega)|fail) only[O1,VV0,VV1,VV2,VV3,VV4,VV5,VV6,VV7,VV8,VV9,mkFnV,vargs,slotsL,opdsA,Nat.reduceEqDiff,Nat.reduceLT,Nat.reduceAdd,Nat.reduceBEq,Int.reduceAdd,Int.reduceSub,Int.reduceLT,Int.reduceLE,Int.reduceEq,Int.reduceNeg,↓reduceIte,reduceCtorEq,scL,scD,expand,List.replicate])|((first|apply gI_dec|apply gG_dec|apply gPG_dec|apply gI_var|apply gG_var|apply gPG_var)<;>intro _))
   exact weak_finA2Nil h0 rfl
 |cons b r3=>
  have hq0:(b::r3).length=r3.length+1:=rfl
  have hpx1:(p++ [b]).length=p.length+1:=by simp
  have e111:=u8_eq b 111 (by decide)
  have e46:=u8_eq b 46 (by decide)
  have e10:=u8_eq b 10 (by decide)
  rw[parseP] at hps
  by_cases hbig:b.toNat<128
  case neg=>
   obtain ⟨u,k,hu,hnx⟩:=next_big s p r3 b hs hbig hl (chnH 0 s p.length cs c) 5 2 rfl
   have hps2:parse18 s=none:=by
    unfold parse18
    rw[hps,if_neg (by rintro (rfl|rfl)<;>exact hbig (by decide)),if_neg (by rintro rfl;exact hbig (by decide))]
   rw[hps2]
   repeat' (first|(simp (disch:=first|omega|assumption|exact bd (by with_unfolding_all rfl)|exact Or.inl rfl|exact Or.inl trivial|exact okL_map _ (fun _=>rfl) _|(simp only[VVlen]<;>omega)|fail) only[O1,VV0,VV1,VV2,VV3,VV4,VV5,VV6,VV7,VV8,VV9,mkFnV,vargs,slotsL,opdsA,Nat.reduceEqDiff,Nat.reduceLT,Nat.reduceAdd,Nat.reduceBEq,Int.reduceAdd,Int.reduceSub,Int.reduceLT,Int.reduceLE,Int.reduceEq,Int.reduceNeg,↓reduceIte,reduceCtorEq,scL,scD,expand,List.replicate,c27l0,pv_nextS,wv_nextS,hnx])|((first|apply gI_dec|apply gG_dec|apply gPG_dec|apply gI_var|apply gG_var|apply gPG_var)<;>intro _))
   all_goals try (exfalso;omega)
   exact weak_finA2Nil h0 rfl
  have hnx:=next_small s p r3 b hs hbig hl (chnH 0 s p.length cs c) 5 2 rfl
  by_cases h1:b=111
  ·rw[if_pos (.inl h1),decide_eq_true h1] at hps
   have i1:=e111.2 h1
   simp only[Int.cast_ofNat_Int] at i1
   repeat' (first|(simp (disch:=first|omega|assumption|exact bd (by with_unfolding_all rfl)|exact Or.inl rfl|exact Or.inl trivial|exact okL_map _ (fun _=>rfl) _|(simp only[VVlen]<;>omega)|fail) only[O1,VV0,VV1,VV2,VV3,VV4,VV5,VV6,VV7,VV8,VV9,mkFnV,vargs,slotsL,opdsA,Nat.reduceEqDiff,Nat.reduceLT,Nat.reduceAdd,Nat.reduceBEq,Int.reduceAdd,Int.reduceSub,Int.reduceLT,Int.reduceLE,Int.reduceEq,Int.reduceNeg,↓reduceIte,reduceCtorEq,scL,scD,expand,List.replicate,c27l0,pv_nextS,wv_nextS,hnx,i1])|((first|apply gI_dec|apply gG_dec|apply gPG_dec|apply gI_var|apply gG_var|apply gPG_var)<;>intro _))
   all_goals try (exfalso;omega)
   refine ⟨_,_,_,?_,weak_to [(6,4),(3,3),(2,2),(1,1),(0,0)] 5 h0 rfl rfl rfl rfl,cs,c++ [true],p++ [b],r3,rfl,by rw[hs];simp,?_,hcb,hps,?_,?_⟩
   ·omega
   ·rw[hpx1,show (c++ [true]).length=c.length+1 by simp];omega
   ·rw[show (c++ [true]).length=c.length+1 by simp];rfl
   ·rw[hpx1,chnH,List.map_append];rfl
  by_cases h2:b=46
  ·rw[if_pos (.inr h2),decide_eq_false h1] at hps
   have i1:=e46.2 h2
   simp only[Int.cast_ofNat_Int] at i1
   repeat' (first|(simp (disch:=first|omega|assumption|exact bd (by with_unfolding_all rfl)|exact Or.inl rfl|exact Or.inl trivial|exact okL_map _ (fun _=>rfl) _|(simp only[VVlen]<;>omega)|fail) only[O1,VV0,VV1,VV2,VV3,VV4,VV5,VV6,VV7,VV8,VV9,mkFnV,vargs,slotsL,opdsA,Nat.reduceEqDiff,Nat.reduceLT,Nat.reduceAdd,Nat.reduceBEq,Int.reduceAdd,Int.reduceSub,Int.reduceLT,Int.reduceLE,Int.reduceEq,Int.reduceNeg,↓reduceIte,reduceCtorEq,scL,scD,expand,List.replicate,c27l0,pv_nextS,wv_nextS,hnx,i1])|((first|apply gI_dec|apply gG_dec|apply gPG_dec|apply gI_var|apply gG_var|apply gPG_var)<;>intro _))
   all_goals try (exfalso;omega)
   refine ⟨_,_,_,?_,weak_to [(6,4),(3,3),(2,2),(1,1),(0,0)] 5 h0 rfl rfl rfl rfl,cs,c++ [false],p++ [b],r3,rfl,by rw[hs];simp,?_,hcb,hps,?_,?_⟩
   ·omega
   ·rw[hpx1,show (c++ [false]).length=c.length+1 by simp];omega
   ·rw[show (c++ [false]).length=c.length+1 by simp];rfl
   ·rw[hpx1,chnH,List.map_append];rfl
  have i1:¬ ((b.toNat:Nat):Int)=111:=fun h=>h1 (e111.1 h)
  have i2:¬ ((b.toNat:Nat):Int)=46:=fun h=>h2 (e46.1 h)
  rw[if_neg (fun h=>h.elim h1 h2)] at hps
  by_cases h3:b=10
  ·have i3:=e10.2 h3
   simp only[Int.cast_ofNat_Int] at i3
   rw[if_pos h3] at hps
   have hr1:=rowD_snoc cs c
   repeat' (first|(simp (disch:=first|omega|assumption|exact bd (by with_unfolding_all rfl)|exact Or.inl rfl|exact Or.inl trivial|exact okL_map _ (fun _=>rfl) _|(simp only[VVlen]<;>omega)|fail) only[O1,VV0,VV1,VV2,VV3,VV4,VV5,VV6,VV7,VV8,VV9,mkFnV,vargs,slotsL,opdsA,Nat.reduceEqDiff,Nat.reduceLT,Nat.reduceAdd,Nat.reduceBEq,Int.reduceAdd,Int.reduceSub,Int.reduceLT,Int.reduceLE,Int.reduceEq,Int.reduceNeg,↓reduceIte,reduceCtorEq,scL,scD,expand,List.replicate,c27l0,pv_nextS,wv_nextS,hnx,i1,i2,i3])|((first|apply gI_dec|apply gG_dec|apply gPG_dec|apply gI_var|apply gG_var|apply gPG_var)<;>intro _))
   all_goals try (exfalso;omega)
   refine ⟨_,_,_,?_,(weak_to [(6,3),(2,2),(1,1),(0,0)] 4 h0 rfl rfl rfl rfl).trans (weak_nilSlot 5 4 1 rfl),cs++ [c],[],p++ [b],r3,rfl,by rw[hs];simp,?_,?_,hps,?_,?_⟩
   ·omega
   ·rw[List.length_append,hpx1];simp;omega
   ·intro k hk
    by_cases hkc:k<cs.length
    ·rw[getElem!_pos _ k hk,List.getElem_append_left hkc,← getElem!_pos cs k hkc]
     exact hcb k hkc
    ·rw[getElem!_pos _ k hk,List.getElem_append_right (by omega),List.getElem_singleton]
     omega
   ·rfl
   ·rw[hpx1,chnH,hr1,List.length_append];rfl
  ·have i3:¬ ((b.toNat:Nat):Int)=10:=fun h=>h3 (e10.1 h)
   rw[if_neg h3] at hps
   have hps2:parse18 s=none:=by
    unfold parse18
    rw[hps]
   rw[hps2]
   repeat' (first|(simp (disch:=first|omega|assumption|exact bd (by with_unfolding_all rfl)|exact Or.inl rfl|exact Or.inl trivial|exact okL_map _ (fun _=>rfl) _|(simp only[VVlen]<;>omega)|fail) only[O1,VV0,VV1,VV2,VV3,VV4,VV5,VV6,VV7,VV8,VV9,mkFnV,vargs,slotsL,opdsA,Nat.reduceEqDiff,Nat.reduceLT,Nat.reduceAdd,Nat.reduceBEq,Int.reduceAdd,Int.reduceSub,Int.reduceLT,Int.reduceLE,Int.reduceEq,Int.reduceNeg,↓reduceIte,reduceCtorEq,scL,scD,expand,List.replicate,c27l0,pv_nextS,wv_nextS,hnx,i1,i2,i3])|((first|apply gI_dec|apply gG_dec|apply gPG_dec|apply gI_var|apply gG_var|apply gPG_var)<;>intro _))
   all_goals try (exfalso;omega)
   exact weak_finA2Nil h0 rfl
end
end Go.Proofs.YtepdkmdcainddaaDoor
namespace Go.Proofs.YtepdkmdcainddaaDoor
open Go Go.Itp
set_option maxRecDepth 100000
set_option linter.unusedSimpArgs false
set_option linter.unusedVariables false
def sel (pr:Nat→Bool):Nat→List Int
 |0=> []
 |k+1=>if pr k then sel pr k++ [(k:Int)] else sel pr k
theorem sel_le (pr:Nat→Bool):∀ k,(sel pr k).length≤k
 |0=>Nat.le_refl _
 |k+1=>by
  have:=sel_le pr k
  simp only[sel];split<;>simp<;>omega
def cardP (V:List (List Bool)) (y:Nat):Bool:=oddTo (fun x=>V[y]![x]!) V[y]!.length
def placeP (V:List (List Bool)) (x:Nat):Bool:=oddTo (fun y=>V[y]![x]!) V.length
def wrongE (q:Int) (V:List (List Bool)):Int:=if validS q V then 0 else 8
def wrongA (q:Int) (V:List (List Bool)):List Int:=if validS q V then sel (cardP V) V.length else []
def wrongB (q:Int) (V:List (List Bool)):List Int:=if validS q V then sel (placeP V) (q+1).toNat else []
theorem valid_out {q:Int} {V:List (List Bool)} (h:validS q V=true):1≤q∧q≤40∧2≤V.length∧V.length≤65∧∀ k,k<V.length→(V[k]!.length:Int)=q+1:=of_decide_eq_true h
end Go.Proofs.YtepdkmdcainddaaDoor
namespace Go.Proofs.YtepdkmdcainddaaDoor
open Go Go.Itp
set_option maxRecDepth 100000
set_option maxHeartbeats 2000000
set_option linter.unusedSimpArgs false
set_option linter.unusedVariables false
def wrongV (q:Int) (L:List (List Bool)):V:= .tup [.sl 3 (wrongA q L).length ((wrongA q L).map iD),.sl 3 (wrongB q L).length ((wrongB q L).map iD),.sc (.int .i64 (wrongE q L))]
theorem sel_yes (p:Nat→Bool) (k:Nat) (h:p k=true):sel p (k+1)=sel p k++ [(k:Int)]:=by simp[sel,h]
theorem sel_no (p:Nat→Bool) (k:Nat) (h:p k=false):sel p (k+1)=sel p k:=by simp[sel,h]
section
variable (w:World) (n:Nat)
theorem wr1_p (st:VSt) (o t e s:Nat) (l:List Bool) (h1:aget st.own o=some (.box t e [.sl s l.length (l.map bD)])) (i:Nat) (hi:i<l.length) (hl:l.length≤1000000):
  VSpecO (EN w (n+1)) 54 st [.sc (.int .i64 i),.ptr o 0] (.sc (.bool l[i]!)):=by
 refine vspecO_g rfl rfl (fun _ _=>rfl) (Nat.le_of_ble_eq_true rfl) rfl fun C hC h0=>⟨⟨st.own,st.next,st.next⟩,?_⟩
 repeat' (first|(simp (disch:=first|omega|assumption|exact bd (by with_unfolding_all rfl)|exact Or.inl rfl|exact Or.inl trivial|exact okL_map _ (fun _=>rfl) _|(simp only[VVlen]<;>omega)|fail) only[O1,VV0,VV1,VV2,VV3,VV4,VV5,VV6,VV7,VV8,VV9,mkFnV,vargs,slotsL,opdsA,Nat.reduceEqDiff,Nat.reduceLT,Nat.reduceAdd,Nat.reduceBEq,Int.reduceAdd,Int.reduceSub,Int.reduceLT,Int.reduceLE,Int.reduceEq,Int.reduceNeg,↓reduceIte,reduceCtorEq,scL,scD,expand,List.replicate,c54,h1,bD_dv])|((first|apply gI_dec|apply gG_dec|apply gPG_dec|apply gI_var|apply gG_var|apply gPG_var)<;>intro _))
 exact .refl _ _
theorem wr2_p (st:VSt) (o o3 t e t2 e2 s s':Nat) (q:Value) (x:Nat) (L:List (List Bool)) (h1:aget st.own o=some (.box t e [.sc q,.sl s L.length (L.map (rowD s'))])) (h3:aget st.own o3=some (.box t2 e2 [.sc (.int .i64 x)]))
  (i:Nat) (hi:i<L.length) (hx2:x<L[i]!.length) (hL:L.length≤1000000) (hr:L[i]!.length≤1000000):
  VSpecO (EN w (n+1)) 55 st [.sc (.int .i64 i),.ptr o 0,.ptr o3 0] (.sc (.bool L[i]![x]!)):=by
 refine vspecO_g rfl rfl (fun _ _=>rfl) (Nat.le_of_ble_eq_true rfl) rfl fun C hC h0=>⟨⟨st.own,st.next,st.next⟩,?_⟩
 repeat' (first|(simp (disch:=first|omega|assumption|exact bd (by with_unfolding_all rfl)|exact Or.inl rfl|exact Or.inl trivial|exact okL_map _ (fun _=>rfl) _|(simp only[VVlen]<;>omega)|fail) only[O1,VV0,VV1,VV2,VV3,VV4,VV5,VV6,VV7,VV8,VV9,mkFnV,vargs,slotsL,opdsA,Nat.reduceEqDiff,Nat.reduceLT,Nat.reduceAdd,Nat.reduceBEq,Int.reduceAdd,Int.reduceSub,Int.reduceLT,Int.reduceLE,Int.reduceEq,Int.reduceNeg,↓reduceIte,reduceCtorEq,scL,scD,expand,List.replicate,c55,h1,h3,bD_dv,rowD_dv])|((first|apply gI_dec|apply gG_dec|apply gPG_dec|apply gI_var|apply gG_var|apply gPG_var)<;>intro _))
 exact .refl _ _
theorem wrong_p (s s':Nat) (q:Int) (L:List (List Bool)) (hs:s ≠ 1) (hL:L.length≤1000) (hr:∀ k,k<L.length→L[k]!.length≤1000) (hq: -1000000≤q∧q≤1000000):
  VSpec (EN w (n+5)) 30 [chainV s s' q L] (wrongV q L) ⟨[],0,0⟩:=by
 refine vspec_g rfl rfl (fun _ _=>rfl) (Nat.le_of_ble_eq_true rfl) (oldVals w) retOK_fin2 rfl fun C hC h0=>?_
 have hv:=valid_p w n s s' q L hs (by omega) (fun k hk=>by have:=hr k hk;omega) hq
 have hrn:C.E.rounds=many:=by rw[hC,callP_rounds]
 cases hval:validS q L with
 |false=>
  have e:wrongV q L= .tup [.sl 3 0 [],.sl 3 0 [],.sc (.int .i64 8)]:=by simp[wrongV,wrongA,wrongB,wrongE,hval]
  rw[hval] at hv
  rw[e]
  repeat' (first|(simp (disch:=first|omega|assumption|exact bd (by with_unfolding_all rfl)|exact Or.inl rfl|exact Or.inl trivial|exact okL_map _ (fun _=>rfl) _|(simp only[VVlen]<;>omega)|fail) only[O1,VV0,VV1,VV2,VV3,VV4,VV5,VV6,VV7,VV8,VV9,mkFnV,vargs,slotsL,opdsA,Nat.reduceEqDiff,Nat.reduceLT,Nat.reduceAdd,Nat.reduceBEq,Int.reduceAdd,Int.reduceSub,Int.reduceLT,Int.reduceLE,Int.reduceEq,Int.reduceNeg,↓reduceIte,reduceCtorEq,scL,scD,expand,List.replicate,c30])|((first|apply gI_dec|apply gG_dec|apply gPG_dec|apply gI_var|apply gG_var|apply gPG_var)<;>intro _))
  refine callV_flat (by rw[hC];exact hv.flat rfl rfl) ?_
  repeat' (first|(simp (disch:=first|omega|assumption|exact bd (by with_unfolding_all rfl)|exact Or.inl rfl|exact Or.inl trivial|exact okL_map _ (fun _=>rfl) _|(simp only[VVlen]<;>omega)|fail) only[O1,VV0,VV1,VV2,VV3,VV4,VV5,VV6,VV7,VV8,VV9,mkFnV,vargs,slotsL,opdsA,Nat.reduceEqDiff,Nat.reduceLT,Nat.reduceAdd,Nat.reduceBEq,Int.reduceAdd,Int.reduceSub,Int.reduceLT,Int.reduceLE,Int.reduceEq,Int.reduceNeg,↓reduceIte,reduceCtorEq,scL,scD,expand,List.replicate])|((first|apply gI_dec|apply gG_dec|apply gPG_dec|apply gI_var|apply gG_var|apply gPG_var)<;>intro _))
  exact weak_finNil2 h0 rfl
 |true=>
  obtain ⟨q1,q2,q3,q4,q5⟩:=valid_out hval
  obtain ⟨Q,rfl⟩:∃ Q:Nat,q=Q:=⟨q.toNat,by omega⟩
  have e:wrongV Q L= .tup [.sl 3 (sel (cardP L) L.length).length ((sel (cardP L) L.length).map iD),.sl 3 (sel (placeP L) (Q+1)).length ((sel (placeP L) (Q+1)).map iD),.sc (.int .i64 0)]:=by
   have:((Q:Int)+1).toNat=Q+1:=by omega
   simp[wrongV,wrongA,wrongB,wrongE,hval,this]
  rw[hval] at hv
  rw[e]
  repeat' (first|(simp (disch:=first|omega|assumption|exact bd (by with_unfolding_all rfl)|exact Or.inl rfl|exact Or.inl trivial|exact okL_map _ (fun _=>rfl) _|(simp only[VVlen]<;>omega)|fail) only[O1,VV0,VV1,VV2,VV3,VV4,VV5,VV6,VV7,VV8,VV9,mkFnV,vargs,slotsL,opdsA,Nat.reduceEqDiff,Nat.reduceLT,Nat.reduceAdd,Nat.reduceBEq,Int.reduceAdd,Int.reduceSub,Int.reduceLT,Int.reduceLE,Int.reduceEq,Int.reduceNeg,↓reduceIte,reduceCtorEq,scL,scD,expand,List.replicate,c30])|((first|apply gI_dec|apply gG_dec|apply gPG_dec|apply gI_var|apply gG_var|apply gPG_var)<;>intro _))
  refine callV_flat (by rw[hC];exact hv.flat rfl rfl) ?_
  repeat' (first|(simp (disch:=first|omega|assumption|exact bd (by with_unfolding_all rfl)|exact Or.inl rfl|exact Or.inl trivial|exact okL_map _ (fun _=>rfl) _|(simp only[VVlen]<;>omega)|fail) only[O1,VV0,VV1,VV2,VV3,VV4,VV5,VV6,VV7,VV8,VV9,mkFnV,vargs,slotsL,opdsA,Nat.reduceEqDiff,Nat.reduceLT,Nat.reduceAdd,Nat.reduceBEq,Int.reduceAdd,Int.reduceSub,Int.reduceLT,Int.reduceLE,Int.reduceEq,Int.reduceNeg,↓reduceIte,reduceCtorEq,scL,scD,expand,List.replicate])|((first|apply gI_dec|apply gG_dec|apply gPG_dec|apply gI_var|apply gG_var|apply gPG_var)<;>intro _))
  refine g_while (fun m fr st=>∃ k:Nat,m=L.length - k∧k≤L.length∧fr= [(1,.ptr 0 0),(2,.gr 2 1 (sel (cardP L) k).length),(3,.sc (.slice none 0 0)),(12,.sl s L.length (L.map (rowD s'))),(13,.sc (.int .i64 L.length)),(14,.sc (.int .i64 k))]∧
   st=⟨[(1,.gro 3 1 false ((sel (cardP L) k).map iD)),(0,.box 34 1 [.sc (.int .i64 Q),.sl s L.length (L.map (rowD s'))])],2,0⟩) L.length ?_ ⟨_,_,weak_nilSlot 2 3 1 rfl,0,by omega,Nat.zero_le _,rfl,rfl⟩ ?_
  ·rw[hrn];unfold many;omega
  rintro m fr st ⟨k,rfl,hk,rfl,rfl⟩
  have hsl:=sel_le (cardP L) k
  have hsm:((sel (cardP L) k).map iD).length=(sel (cardP L) k).length:=by rw[List.length_map]
  by_cases hlt:k<L.length
  ·have hrk:=hr k hlt
   have hodd:=fun (st:VSt) (h:aget st.own 2=some (.box 22 1 [.sl s' L[k]!.length (L[k]!.map bD)]))=>odd_p w (n+3) st L[k]!.length (by omega) 54 [.ptr 2 0] (fun x=>L[k]![x]!) fun i hi=>wr1_p w (n+2) st 2 22 1 s' L[k]! h i hi (by omega)
   cases hc:cardP L k with
   |true=>
    have hsy:=sel_yes _ _ hc
    unfold cardP at hc
    rw[hc] at hodd
    repeat' (first|(simp (disch:=first|omega|assumption|exact bd (by with_unfolding_all rfl)|exact Or.inl rfl|exact Or.inl trivial|exact okL_map _ (fun _=>rfl) _|(simp only[VVlen]<;>omega)|fail) only[O1,VV0,VV1,VV2,VV3,VV4,VV5,VV6,VV7,VV8,VV9,mkFnV,vargs,slotsL,opdsA,Nat.reduceEqDiff,Nat.reduceLT,Nat.reduceAdd,Nat.reduceBEq,Int.reduceAdd,Int.reduceSub,Int.reduceLT,Int.reduceLE,Int.reduceEq,Int.reduceNeg,↓reduceIte,reduceCtorEq,scL,scD,expand,List.replicate,c30l1,rowD_dv])|((first|apply gI_dec|apply gG_dec|apply gPG_dec|apply gI_var|apply gG_var|apply gPG_var)<;>intro _))
    refine callV_flat (by rw[hC];refine hodd _ ?_;rfl) ?_
    repeat' (first|(simp (disch:=first|omega|assumption|exact bd (by with_unfolding_all rfl)|exact Or.inl rfl|exact Or.inl trivial|exact okL_map _ (fun _=>rfl) _|(simp only[VVlen]<;>omega)|fail) only[O1,VV0,VV1,VV2,VV3,VV4,VV5,VV6,VV7,VV8,VV9,mkFnV,vargs,slotsL,opdsA,Nat.reduceEqDiff,Nat.reduceLT,Nat.reduceAdd,Nat.reduceBEq,Int.reduceAdd,Int.reduceSub,Int.reduceLT,Int.reduceLE,Int.reduceEq,Int.reduceNeg,↓reduceIte,reduceCtorEq,scL,scD,expand,List.replicate])|((first|apply gI_dec|apply gG_dec|apply gPG_dec|apply gI_var|apply gG_var|apply gPG_var)<;>intro _))
    refine ⟨_,_,_,by omega,weak_to [(4,1),(0,0)] 2 h0 rfl rfl rfl rfl,k+1,rfl,hlt,?_,?_⟩
    ·rw[hsy,List.length_append];try rfl
    ·rw[hsy,List.map_append];rfl
   |false=>
    have hsy:=sel_no _ _ hc
    unfold cardP at hc
    rw[hc] at hodd
    repeat' (first|(simp (disch:=first|omega|assumption|exact bd (by with_unfolding_all rfl)|exact Or.inl rfl|exact Or.inl trivial|exact okL_map _ (fun _=>rfl) _|(simp only[VVlen]<;>omega)|fail) only[O1,VV0,VV1,VV2,VV3,VV4,VV5,VV6,VV7,VV8,VV9,mkFnV,vargs,slotsL,opdsA,Nat.reduceEqDiff,Nat.reduceLT,Nat.reduceAdd,Nat.reduceBEq,Int.reduceAdd,Int.reduceSub,Int.reduceLT,Int.reduceLE,Int.reduceEq,Int.reduceNeg,↓reduceIte,reduceCtorEq,scL,scD,expand,List.replicate,c30l1,rowD_dv])|((first|apply gI_dec|apply gG_dec|apply gPG_dec|apply gI_var|apply gG_var|apply gPG_var)<;>intro _))
    refine callV_flat (by rw[hC];refine hodd _ ?_;rfl) ?_
    repeat' (first|(simp (disch:=first|omega|assumption|exact bd (by with_unfolding_all rfl)|exact Or.inl rfl|exact Or.inl trivial|exact okL_map _ (fun _=>rfl) _|(simp only[VVlen]<;>omega)|fail) only[O1,VV0,VV1,VV2,VV3,VV4,VV5,VV6,VV7,VV8,VV9,mkFnV,vargs,slotsL,opdsA,Nat.reduceEqDiff,Nat.reduceLT,Nat.reduceAdd,Nat.reduceBEq,Int.reduceAdd,Int.reduceSub,Int.reduceLT,Int.reduceLE,Int.reduceEq,Int.reduceNeg,↓reduceIte,reduceCtorEq,scL,scD,expand,List.replicate])|((first|apply gI_dec|apply gG_dec|apply gPG_dec|apply gI_var|apply gG_var|apply gPG_var)<;>intro _))
    exact ⟨_,_,_,by omega,weak_to [(1,1),(0,0)] 2 h0 rfl rfl rfl rfl,k+1,rfl,hlt,by rw[hsy];rfl,by rw[hsy];rfl⟩
  have:k=L.length:=by omega
  subst this
  generalize sel (cardP L) L.length=A at*
  repeat' (first|(simp (disch:=first|omega|assumption|exact bd (by with_unfolding_all rfl)|exact Or.inl rfl|exact Or.inl trivial|exact okL_map _ (fun _=>rfl) _|(simp only[VVlen]<;>omega)|fail) only[O1,VV0,VV1,VV2,VV3,VV4,VV5,VV6,VV7,VV8,VV9,mkFnV,vargs,slotsL,opdsA,Nat.reduceEqDiff,Nat.reduceLT,Nat.reduceAdd,Nat.reduceBEq,Int.reduceAdd,Int.reduceSub,Int.reduceLT,Int.reduceLE,Int.reduceEq,Int.reduceNeg,↓reduceIte,reduceCtorEq,scL,scD,expand,List.replicate,c30l1])|((first|apply gI_dec|apply gG_dec|apply gPG_dec|apply gI_var|apply gG_var|apply gPG_var)<;>intro _))
  refine g_while (fun m fr st=>∃ x:Nat,m=Q+1 - x∧x≤Q+1∧fr= [(1,.ptr 0 0),(2,.gr 2 1 A.length),(3,.gr 2 2 (sel (placeP L) x).length),(30,.sc (.int .i64 ((Q:Int)+1))),(31,.sc (.int .i64 x))]∧
   st=⟨[(2,.gro 3 1 false ((sel (placeP L) x).map iD)),(1,.gro 3 1 false (A.map iD)),(0,.box 34 1 [.sc (.int .i64 Q),.sl s L.length (L.map (rowD s'))])],3,0⟩) (Q+1) ?_ ⟨_,_,weak_nilSlot 3 3 1 rfl,0,by omega,Nat.zero_le _,rfl,rfl⟩ ?_
  ·rw[hrn];unfold many;omega
  rintro m fr st ⟨x,rfl,hx,rfl,rfl⟩
  have hsl2:=sel_le (placeP L) x
  have hsm2:((sel (placeP L) x).map iD).length=(sel (placeP L) x).length:=by rw[List.length_map]
  by_cases hlx:x<Q+1
  ·have hodd:=fun (st:VSt) (h:aget st.own 0=some (.box 34 1 [.sc (.int .i64 Q),.sl s L.length (L.map (rowD s'))])) (h3:aget st.own 3=some (.box 3 1 [.sc (.int .i64 x)]))=>odd_p w (n+3) st L.length (by omega) 55 [.ptr 0 0,.ptr 3 0] (fun y=>L[y]![x]!) fun i hi=>wr2_p w (n+2) st 0 3 34 1 3 1 s s' _ x L h h3 i hi (by have:=q5 i hi;omega) (by omega) (by have:=hr i hi;omega)
   cases hc:placeP L x with
   |true=>
    have hsy:=sel_yes _ _ hc
    unfold placeP at hc
    rw[hc] at hodd
    repeat' (first|(simp (disch:=first|omega|assumption|exact bd (by with_unfolding_all rfl)|exact Or.inl rfl|exact Or.inl trivial|exact okL_map _ (fun _=>rfl) _|(simp only[VVlen]<;>omega)|fail) only[O1,VV0,VV1,VV2,VV3,VV4,VV5,VV6,VV7,VV8,VV9,mkFnV,vargs,slotsL,opdsA,Nat.reduceEqDiff,Nat.reduceLT,Nat.reduceAdd,Nat.reduceBEq,Int.reduceAdd,Int.reduceSub,Int.reduceLT,Int.reduceLE,Int.reduceEq,Int.reduceNeg,↓reduceIte,reduceCtorEq,scL,scD,expand,List.replicate,c30l0,rowD_dv])|((first|apply gI_dec|apply gG_dec|apply gPG_dec|apply gI_var|apply gG_var|apply gPG_var)<;>intro _))
    refine callV_flat (by rw[hC];refine hodd _ ?_ ?_<;>rfl) ?_
    repeat' (first|(simp (disch:=first|omega|assumption|exact bd (by with_unfolding_all rfl)|exact Or.inl rfl|exact Or.inl trivial|exact okL_map _ (fun _=>rfl) _|(simp only[VVlen]<;>omega)|fail) only[O1,VV0,VV1,VV2,VV3,VV4,VV5,VV6,VV7,VV8,VV9,mkFnV,vargs,slotsL,opdsA,Nat.reduceEqDiff,Nat.reduceLT,Nat.reduceAdd,Nat.reduceBEq,Int.reduceAdd,Int.reduceSub,Int.reduceLT,Int.reduceLE,Int.reduceEq,Int.reduceNeg,↓reduceIte,reduceCtorEq,scL,scD,expand,List.replicate])|((first|apply gI_dec|apply gG_dec|apply gPG_dec|apply gI_var|apply gG_var|apply gPG_var)<;>intro _))
    refine ⟨_,_,_,by omega,weak_to [(5,2),(1,1),(0,0)] 3 h0 rfl rfl rfl rfl,x+1,rfl,hlx,?_,?_⟩
    ·rw[hsy,List.length_append];try rfl
    ·rw[hsy,List.map_append];rfl
   |false=>
    have hsy:=sel_no _ _ hc
    unfold placeP at hc
    rw[hc] at hodd
    repeat' (first|(simp (disch:=first|omega|assumption|exact bd (by with_unfolding_all rfl)|exact Or.inl rfl|exact Or.inl trivial|exact okL_map _ (fun _=>rfl) _|(simp only[VVlen]<;>omega)|fail) only[O1,VV0,VV1,VV2,VV3,VV4,VV5,VV6,VV7,VV8,VV9,mkFnV,vargs,slotsL,opdsA,Nat.reduceEqDiff,Nat.reduceLT,Nat.reduceAdd,Nat.reduceBEq,Int.reduceAdd,Int.reduceSub,Int.reduceLT,Int.reduceLE,Int.reduceEq,Int.reduceNeg,↓reduceIte,reduceCtorEq,scL,scD,expand,List.replicate,c30l0,rowD_dv])|((first|apply gI_dec|apply gG_dec|apply gPG_dec|apply gI_var|apply gG_var|apply gPG_var)<;>intro _))
    refine callV_flat (by rw[hC];refine hodd _ ?_ ?_<;>rfl) ?_
    repeat' (first|(simp (disch:=first|omega|assumption|exact bd (by with_unfolding_all rfl)|exact Or.inl rfl|exact Or.inl trivial|exact okL_map _ (fun _=>rfl) _|(simp only[VVlen]<;>omega)|fail) only[O1,VV0,VV1,VV2,VV3,VV4,VV5,VV6,VV7,VV8,VV9,mkFnV,vargs,slotsL,opdsA,Nat.reduceEqDiff,Nat.reduceLT,Nat.reduceAdd,Nat.reduceBEq,Int.reduceAdd,Int.reduceSub,Int.reduceLT,Int.reduceLE,Int.reduceEq,Int.reduceNeg,↓reduceIte,reduceCtorEq,scL,scD,expand,List.replicate])|((first|apply gI_dec|apply gG_dec|apply gPG_dec|apply gI_var|apply gG_var|apply gPG_var)<;>intro _))
    exact ⟨_,_,_,by omega,weak_to [(2,2),(1,1),(0,0)] 3 h0 rfl rfl rfl rfl,x+1,rfl,hlx,by rw[hsy];rfl,by rw[hsy];rfl⟩
  ·have:x=Q+1:=by omega
   subst this
   repeat' (first|(simp (disch:=first|omega|assumption|exact bd (by with_unfolding_all rfl)|exact Or.inl rfl|exact Or.inl trivial|exact okL_map _ (fun _=>rfl) _|(simp only[VVlen]<;>omega)|fail) only[O1,VV0,VV1,VV2,VV3,VV4,VV5,VV6,VV7,VV8,VV9,mkFnV,vargs,slotsL,opdsA,Nat.reduceEqDiff,Nat.reduceLT,Nat.reduceAdd,Nat.reduceBEq,Int.reduceAdd,Int.reduceSub,Int.reduceLT,Int.reduceLE,Int.reduceEq,Int.reduceNeg,↓reduceIte,reduceCtorEq,scL,scD,expand,List.replicate,c30l0])|((first|apply gI_dec|apply gG_dec|apply gPG_dec|apply gI_var|apply gG_var|apply gPG_var)<;>intro _))
   exact weak_fin2 (s:=2) (s':=2) (snap_grD (o:=1) rfl (by rw[List.length_map])) (snap_grD (o:=2) rfl (by rw[List.length_map])) rfl (.inl (by decide)) (.inl (by decide)) h0 rfl
end
end Go.Proofs.YtepdkmdcainddaaDoor
namespace Go.Proofs.YtepdkmdcainddaaDoor
open Go Go.Itp
set_option maxRecDepth 100000
set_option maxHeartbeats 2000000
set_option linter.unusedSimpArgs false
set_option linter.unusedVariables false
def decTo (Q:Nat) (L:List (List Bool)) (k:Nat):List Bool:=((L.take k).map (·.take Q)).flatten
theorem decTo_succ (Q:Nat) (L:List (List Bool)) (k:Nat) (hk:k<L.length):decTo Q L (k+1)=decTo Q L k++L[k]!.take Q:=by
 unfold decTo
 rw[List.take_succ_eq_append_getElem hk,getElem!_pos L k hk,List.map_append,List.flatten_append]
 simp
theorem decTo_len (Q:Nat) (L:List (List Bool)) (h:∀ k,k<L.length→Q≤L[k]!.length):∀ k,k≤L.length→(decTo Q L k).length=k*Q
 |0,_=>by simp[decTo]
 |k+1,hk=>by
  have:=h k (by omega)
  rw[decTo_succ Q L k (by omega),List.length_append,decTo_len Q L h k (by omega),List.length_take,Nat.succ_mul]
  omega
def decV (q:Int) (L:List (List Bool)):V:=
 if wrongE q L=0 then (if wrongA q L= []∧wrongB q L= [] then .tup [gridV 3 q ((L.length - 1:Nat):Int) (decTo q.toNat L (L.length - 1)),.sc (.int .i64 0)] else .tup [gridV 3 0 0 [],.sc (.int .i64 30)])
 else .tup [gridV 3 0 0 [],.sc (.int .i64 8)]
theorem retOK_dec (q:Int) (L:List (List Bool)):RetOK [] (decV q L):=by
 unfold decV
 split
 ·split<;>exact retOK_finT3
 ·exact retOK_finT3
section
variable (w:World) (n:Nat)
theorem decode_p (s s':Nat) (q:Int) (L:List (List Bool)) (hs:s ≠ 1) (hs':s' ≠ 1) (hL:L.length≤1000) (hr:∀ k,k<L.length→L[k]!.length≤1000) (hq: -1000000≤q∧q≤1000000):
  VSpec (EN w (n+6)) 24 [chainV s s' q L] (decV q L) ⟨[],0,0⟩:=by
 refine vspec_g rfl rfl (fun _ _=>rfl) (Nat.le_of_ble_eq_true rfl) (oldVals w) (retOK_dec q L) rfl fun C hC h0=>?_
 have hw:=wrong_p w n s s' q L hs hL hr hq
 have hrn:C.E.rounds=many:=by rw[hC,callP_rounds]
 unfold wrongV at hw
 unfold decV
 by_cases he:wrongE q L=0
 case neg=>
  have he8:wrongE q L=8:=by unfold wrongE at he ⊢;split;rename_i h;simp[h] at he;rfl
  rw[if_neg he]
  rw[he8] at hw
  generalize wrongA q L=A at*
  generalize wrongB q L=B at*
  repeat' (first|(simp (disch:=first|omega|assumption|exact bd (by with_unfolding_all rfl)|exact Or.inl rfl|exact Or.inl trivial|exact okL_map _ (fun _=>rfl) _|(simp only[VVlen]<;>omega)|fail) only[O1,VV0,VV1,VV2,VV3,VV4,VV5,VV6,VV7,VV8,VV9,mkFnV,vargs,slotsL,opdsA,Nat.reduceEqDiff,Nat.reduceLT,Nat.reduceAdd,Nat.reduceBEq,Int.reduceAdd,Int.reduceSub,Int.reduceLT,Int.reduceLE,Int.reduceEq,Int.reduceNeg,↓reduceIte,reduceCtorEq,scL,scD,expand,List.replicate,c24])|((first|apply gI_dec|apply gG_dec|apply gPG_dec|apply gI_var|apply gG_var|apply gPG_var)<;>intro _))
  refine callV_fin (by rw[hC];exact hw) rfl rfl (fun _=>rfl) ?_
  repeat' (first|(simp (disch:=first|omega|assumption|exact bd (by with_unfolding_all rfl)|exact Or.inl rfl|exact Or.inl trivial|exact okL_map _ (fun _=>rfl) _|(simp only[VVlen]<;>omega)|fail) only[O1,VV0,VV1,VV2,VV3,VV4,VV5,VV6,VV7,VV8,VV9,mkFnV,vargs,slotsL,opdsA,Nat.reduceEqDiff,Nat.reduceLT,Nat.reduceAdd,Nat.reduceBEq,Int.reduceAdd,Int.reduceSub,Int.reduceLT,Int.reduceLE,Int.reduceEq,Int.reduceNeg,↓reduceIte,reduceCtorEq,scL,scD,expand,List.replicate])|((first|apply gI_dec|apply gG_dec|apply gPG_dec|apply gI_var|apply gG_var|apply gPG_var)<;>intro _))
  exact weak_finT3Nil h0 rfl
 rw[if_pos he]
 have hval:validS q L=true:=by
  unfold wrongE at he
  split at he
  ·assumption
  ·cases he
 obtain ⟨q1,q2,q3,q4,q5⟩:=valid_out hval
 obtain ⟨Q,rfl⟩:∃ Q:Nat,q=Q:=⟨q.toNat,by omega⟩
 rw[he] at hw
 by_cases hAB:wrongA Q L= []∧wrongB Q L= []
 case neg=>
  rw[if_neg hAB]
  have hp:0<(wrongA Q L).length+(wrongB Q L).length:=by
   rcases Nat.eq_zero_or_pos ((wrongA Q L).length+(wrongB Q L).length) with h|h
   ·exact absurd ⟨List.eq_nil_of_length_eq_zero (by omega),List.eq_nil_of_length_eq_zero (by omega)⟩ hAB
   ·exact h
  have hA:(wrongA Q L).length≤1000:=by unfold wrongA;rw[if_pos hval];have:=sel_le (cardP L) L.length;omega
  have hB:(wrongB Q L).length≤1000:=by unfold wrongB;rw[if_pos hval,show ((Q:Int)+1).toNat=Q+1 by omega];have:=sel_le (placeP L) (Q+1);omega
  generalize wrongA Q L=A at*
  generalize wrongB Q L=B at*
  repeat' (first|(simp (disch:=first|omega|assumption|exact bd (by with_unfolding_all rfl)|exact Or.inl rfl|exact Or.inl trivial|exact okL_map _ (fun _=>rfl) _|(simp only[VVlen]<;>omega)|fail) only[O1,VV0,VV1,VV2,VV3,VV4,VV5,VV6,VV7,VV8,VV9,mkFnV,vargs,slotsL,opdsA,Nat.reduceEqDiff,Nat.reduceLT,Nat.reduceAdd,Nat.reduceBEq,Int.reduceAdd,Int.reduceSub,Int.reduceLT,Int.reduceLE,Int.reduceEq,Int.reduceNeg,↓reduceIte,reduceCtorEq,scL,scD,expand,List.replicate,c24])|((first|apply gI_dec|apply gG_dec|apply gPG_dec|apply gI_var|apply gG_var|apply gPG_var)<;>intro _))
  refine callV_fin (by rw[hC];exact hw) rfl rfl (fun _=>rfl) ?_
  repeat' (first|(simp (disch:=first|omega|assumption|exact bd (by with_unfolding_all rfl)|exact Or.inl rfl|exact Or.inl trivial|exact okL_map _ (fun _=>rfl) _|(simp only[VVlen]<;>omega)|fail) only[O1,VV0,VV1,VV2,VV3,VV4,VV5,VV6,VV7,VV8,VV9,mkFnV,vargs,slotsL,opdsA,Nat.reduceEqDiff,Nat.reduceLT,Nat.reduceAdd,Nat.reduceBEq,Int.reduceAdd,Int.reduceSub,Int.reduceLT,Int.reduceLE,Int.reduceEq,Int.reduceNeg,↓reduceIte,reduceCtorEq,scL,scD,expand,List.replicate])|((first|apply gI_dec|apply gG_dec|apply gPG_dec|apply gI_var|apply gG_var|apply gPG_var)<;>intro _))
  all_goals try (exfalso;omega)
  exact weak_finT3Nil h0 rfl
 rw[if_pos hAB]
 rw[hAB.1,hAB.2] at hw
 obtain ⟨M,hM⟩:∃ M,L.length=M+1:=⟨L.length - 1,by omega⟩
 have hM1:((L.length:Int) - 1)=(M:Int):=by omega
 have hM2:L.length - 1=M:=by omega
 rw[hM2,Int.toNat_natCast]
 have hdl:=decTo_len Q L (fun k hk=>by have:=q5 k hk;omega)
 repeat' (first|(simp (disch:=first|omega|assumption|exact bd (by with_unfolding_all rfl)|exact Or.inl rfl|exact Or.inl trivial|exact okL_map _ (fun _=>rfl) _|(simp only[VVlen]<;>omega)|fail) only[O1,VV0,VV1,VV2,VV3,VV4,VV5,VV6,VV7,VV8,VV9,mkFnV,vargs,slotsL,opdsA,Nat.reduceEqDiff,Nat.reduceLT,Nat.reduceAdd,Nat.reduceBEq,Int.reduceAdd,Int.reduceSub,Int.reduceLT,Int.reduceLE,Int.reduceEq,Int.reduceNeg,↓reduceIte,reduceCtorEq,scL,scD,expand,List.replicate,c24])|((first|apply gI_dec|apply gG_dec|apply gPG_dec|apply gI_var|apply gG_var|apply gPG_var)<;>intro _))
 refine callV_fin (by rw[hC];exact hw) rfl rfl (fun _=>rfl) ?_
 repeat' (first|(simp (disch:=first|omega|assumption|exact bd (by with_unfolding_all rfl)|exact Or.inl rfl|exact Or.inl trivial|exact okL_map _ (fun _=>rfl) _|(simp only[VVlen]<;>omega)|fail) only[O1,VV0,VV1,VV2,VV3,VV4,VV5,VV6,VV7,VV8,VV9,mkFnV,vargs,slotsL,opdsA,Nat.reduceEqDiff,Nat.reduceLT,Nat.reduceAdd,Nat.reduceBEq,Int.reduceAdd,Int.reduceSub,Int.reduceLT,Int.reduceLE,Int.reduceEq,Int.reduceNeg,↓reduceIte,reduceCtorEq,scL,scD,expand,List.replicate,List.length_nil,hM1,Int.toNat_natCast,Nat.sub_zero])|((first|apply gI_dec|apply gG_dec|apply gPG_dec|apply gI_var|apply gG_var|apply gPG_var)<;>intro _))
 all_goals try (exfalso;omega)
 have hTl:(L.take M).length=M:=by rw[List.length_take];omega
 have hTm:((L.take M).map (rowD s')).length=M:=by rw[List.length_map,hTl]
 have hTk:∀ k,k<M→(L.take M)[k]! =L[k]! :=fun k hk=>by
  rw[getElem!_pos _ k (by rw[hTl];exact hk),getElem!_pos L k (by omega),List.getElem_take]
 generalize L.take M=T at*
 refine g_while (fun m fr st=>∃ k:Nat,m=M - k∧k≤M∧fr= [(2,.ptr 1 0),(7,.ptr 2 0),(38,.sl (kindS s) M (T.map (rowD s'))),(39,.sc (.int .i64 M)),(40,.sc (.int .i64 k))]∧
  st=⟨[(3,.gro 4 1 false ((decTo Q L k).map bD)),(2,.box 24 1 [.sc (.int .i64 Q),.sc (.int .i64 M),.gr 2 3 (decTo Q L k).length]),(1,.box 24 1 [.sc (.int .i64 0),.sc (.int .i64 0),.sc (.slice none 0 0)]),(0,.box 34 1 [.sc (.int .i64 Q),.sl s L.length (L.map (rowD s'))])],4,0⟩) M ?_
  ⟨_,_,weak_nilCell (C:=C) (l:= [.sc (.int .i64 Q),.sc (.int .i64 M),.sc (.slice none 0 0)]) 2 24 1 2 4 1 rfl rfl (fun h=>absurd (show (2:Nat)=3 from h) (by decide)),0,by omega,Nat.zero_le _,rfl,rfl⟩ ?_
 ·rw[hrn];unfold many;omega
 rintro m fr st ⟨k,rfl,hk,rfl,rfl⟩
 have hdk:=hdl k (by omega)
 have hdk2:(decTo Q L k).length≤65*40:=by rw[hdk];exact Nat.mul_le_mul (by omega) (by omega)
 by_cases hlt:k<M
 ·have hrk:=q5 k (by omega)
  have hsc:=decTo_succ Q L k (by omega)
  have hTk1:=hTk k hlt
  have hkl:L[k]!.length=Q+1:=by omega
  have htl:(L[k]!.take Q).length=Q:=by rw[List.length_take];omega
  have htm:((L[k]!.take Q).map bD).length=Q:=by rw[List.length_map,htl]
  generalize L[k]! =R at*
  have hbm:((decTo Q L k).map bD).length=(decTo Q L k).length:=by rw[List.length_map]
  repeat' (first|(simp (disch:=first|omega|assumption|exact bd (by with_unfolding_all rfl)|exact Or.inl rfl|exact Or.inl trivial|exact okL_map _ (fun _=>rfl) _|(simp only[VVlen]<;>omega)|fail) only[O1,VV0,VV1,VV2,VV3,VV4,VV5,VV6,VV7,VV8,VV9,mkFnV,vargs,slotsL,opdsA,Nat.reduceEqDiff,Nat.reduceLT,Nat.reduceAdd,Nat.reduceBEq,Int.reduceAdd,Int.reduceSub,Int.reduceLT,Int.reduceLE,Int.reduceEq,Int.reduceNeg,↓reduceIte,reduceCtorEq,scL,scD,expand,List.replicate,c24l0,rowD_dv,hTk1,Nat.sub_zero,Int.toNat_natCast,hkl])|((first|apply gI_dec|apply gG_dec|apply gPG_dec|apply gI_var|apply gG_var|apply gPG_var)<;>intro _))
  all_goals try (exfalso;omega)
  refine ⟨_,_,_,by omega,weak_to [(4,3),(2,2),(1,1),(0,0)] 4 h0 rfl rfl rfl rfl,k+1,rfl,hlt,rfl,?_⟩
  rw[hsc,List.map_append,List.length_append,htl]
  rfl
 ·have:k=M:=by omega
  subst this
  repeat' (first|(simp (disch:=first|omega|assumption|exact bd (by with_unfolding_all rfl)|exact Or.inl rfl|exact Or.inl trivial|exact okL_map _ (fun _=>rfl) _|(simp only[VVlen]<;>omega)|fail) only[O1,VV0,VV1,VV2,VV3,VV4,VV5,VV6,VV7,VV8,VV9,mkFnV,vargs,slotsL,opdsA,Nat.reduceEqDiff,Nat.reduceLT,Nat.reduceAdd,Nat.reduceBEq,Int.reduceAdd,Int.reduceSub,Int.reduceLT,Int.reduceLE,Int.reduceEq,Int.reduceNeg,↓reduceIte,reduceCtorEq,scL,scD,expand,List.replicate,c24l0])|((first|apply gI_dec|apply gG_dec|apply gPG_dec|apply gI_var|apply gG_var|apply gPG_var)<;>intro _))
  exact weak_finT3 (s:=2) (snap_grD (o:=3) rfl (by rw[List.length_map])) rfl (.inl (by decide)) h0 rfl
end
end Go.Proofs.YtepdkmdcainddaaDoor
namespace Go.Proofs.YtepdkmdcainddaaDoor
open Go Go.Itp
set_option maxRecDepth 100000
set_option maxHeartbeats 2000000
set_option linter.unusedSimpArgs false
set_option linter.unusedVariables false
section
variable (w:World) (n:Nat)
end
end Go.Proofs.YtepdkmdcainddaaDoor
namespace Go.Proofs.YtepdkmdcainddaaDoor
open Go Go.Itp
set_option maxRecDepth 100000
set_option maxHeartbeats 2000000
set_option linter.unusedSimpArgs false
set_option linter.unusedVariables false
end Go.Proofs.YtepdkmdcainddaaDoor
namespace Go.Proofs.YtepdkmdcainddaaDoor
open Go Go.Itp
set_option maxRecDepth 100000
set_option maxHeartbeats 2000000
set_option linter.unusedSimpArgs false
set_option linter.unusedVariables false
section
variable (w:World) (n:Nat)
end
end Go.Proofs.YtepdkmdcainddaaDoor
namespace Go.Proofs.YtepdkmdcainddaaDoor
open Go Go.Itp
set_option maxRecDepth 100000
set_option maxHeartbeats 2000000
set_option linter.unusedSimpArgs false
set_option linter.unusedVariables false
def mendV (e:Int):V:= .tup [.agg [.sc (.int .i64 0),.sc (.slice none 0 0)],.agg [.sc (.int .i64 0),.sc (.int .i64 0)],.sc (.bool false),.sc (.int .i64 e)]
section
variable (w:World) (n:Nat)
theorem mendBad_p (s s':Nat) (q:Int) (L:List (List Bool)) (hs:s ≠ 1) (hL:L.length≤1000) (hr:∀ k,k<L.length→L[k]!.length≤1000) (hq: -1000000≤q∧q≤1000000) (hv:validS q L=false):
  VSpec (EN w (n+6)) 23 [chainV s s' q L] (mendV 8) ⟨[],0,0⟩:=by
 refine vspec_flat rfl rfl (fun _ _=>rfl) (Nat.le_of_ble_eq_true rfl) (oldVals w) rfl fun C hC h0=>?_
 have hw:=wrong_p w n s s' q L hs hL hr hq
 have e:wrongV q L= .tup [.sl 3 0 [],.sl 3 0 [],.sc (.int .i64 8)]:=by simp[wrongV,wrongA,wrongB,wrongE,hv]
 rw[e] at hw
 repeat' (first|(simp (disch:=first|omega|assumption|exact bd (by with_unfolding_all rfl)|exact Or.inl rfl|exact Or.inl trivial|exact okL_map _ (fun _=>rfl) _|(simp only[VVlen]<;>omega)|fail) only[O1,VV0,VV1,VV2,VV3,VV4,VV5,VV6,VV7,VV8,VV9,mkFnV,vargs,slotsL,opdsA,Nat.reduceEqDiff,Nat.reduceLT,Nat.reduceAdd,Nat.reduceBEq,Int.reduceAdd,Int.reduceSub,Int.reduceLT,Int.reduceLE,Int.reduceEq,Int.reduceNeg,↓reduceIte,reduceCtorEq,scL,scD,expand,List.replicate,c23])|((first|apply gI_dec|apply gG_dec|apply gPG_dec|apply gI_var|apply gG_var|apply gPG_var)<;>intro _))
 refine callV_fin (by rw[hC];exact hw) rfl rfl (fun _=>rfl) ?_
 repeat' (first|(simp (disch:=first|omega|assumption|exact bd (by with_unfolding_all rfl)|exact Or.inl rfl|exact Or.inl trivial|exact okL_map _ (fun _=>rfl) _|(simp only[VVlen]<;>omega)|fail) only[O1,VV0,VV1,VV2,VV3,VV4,VV5,VV6,VV7,VV8,VV9,mkFnV,vargs,slotsL,opdsA,Nat.reduceEqDiff,Nat.reduceLT,Nat.reduceAdd,Nat.reduceBEq,Int.reduceAdd,Int.reduceSub,Int.reduceLT,Int.reduceLE,Int.reduceEq,Int.reduceNeg,↓reduceIte,reduceCtorEq,scL,scD,expand,List.replicate])|((first|apply gI_dec|apply gG_dec|apply gPG_dec|apply gI_var|apply gG_var|apply gPG_var)<;>intro _))
 exact weak_flat rfl h0 rfl
theorem mendF_p (s s':Nat) (q:Int) (L:List (List Bool)) (hs:s ≠ 1) (hs':s' ≠ 1) (hval:validS q L=true) (h1:¬ (wrongA q L= []∧wrongB q L= [])) (h2:(wrongA q L).length ≠ 1):
  VSpec (EN w (n+6)) 23 [chainV s s' q L] (mendV 30) ⟨[],0,0⟩:=by
 refine vspec_flat rfl rfl (fun _ _=>rfl) (Nat.le_of_ble_eq_true rfl) (oldVals w) rfl fun C hC h0=>?_
 obtain ⟨q1,q2,q3,q4,q5⟩:=valid_out hval
 have hw:=wrong_p w n s s' q L hs (by omega) (fun k hk=>by have:=q5 k hk;omega) ⟨by omega,by omega⟩
 have hrn:C.E.rounds=many:=by rw[hC,callP_rounds]
 have hE:wrongE q L=0:=if_pos hval
 have hA1:(wrongA q L).length≤1000:=by unfold wrongA;rw[if_pos hval];have:=sel_le (cardP L) L.length;omega
 have hB1:(wrongB q L).length≤1000:=by unfold wrongB;rw[if_pos hval];have:=sel_le (placeP L) (q+1).toNat;omega
 unfold wrongV at hw
 rw[hE] at hw
 have hnn:(wrongA q L).length ≠ 0∨(wrongB q L).length ≠ 0:=by
  rcases Nat.eq_zero_or_pos ((wrongA q L).length+(wrongB q L).length) with h|h
  ·exact absurd ⟨List.eq_nil_of_length_eq_zero (by omega),List.eq_nil_of_length_eq_zero (by omega)⟩ h1
  ·omega
 generalize wrongA q L=A at*
 generalize wrongB q L=B at*
 repeat' (first|(simp (disch:=first|omega|assumption|exact bd (by with_unfolding_all rfl)|exact Or.inl rfl|exact Or.inl trivial|exact okL_map _ (fun _=>rfl) _|(simp only[VVlen]<;>omega)|fail) only[O1,VV0,VV1,VV2,VV3,VV4,VV5,VV6,VV7,VV8,VV9,mkFnV,vargs,slotsL,opdsA,Nat.reduceEqDiff,Nat.reduceLT,Nat.reduceAdd,Nat.reduceBEq,Int.reduceAdd,Int.reduceSub,Int.reduceLT,Int.reduceLE,Int.reduceEq,Int.reduceNeg,↓reduceIte,reduceCtorEq,scL,scD,expand,List.replicate,c23])|((first|apply gI_dec|apply gG_dec|apply gPG_dec|apply gI_var|apply gG_var|apply gPG_var)<;>intro _))
 refine callV_fin (by rw[hC];exact hw) rfl rfl (fun _=>rfl) ?_
 repeat' (first|(simp (disch:=first|omega|assumption|exact bd (by with_unfolding_all rfl)|exact Or.inl rfl|exact Or.inl trivial|exact okL_map _ (fun _=>rfl) _|(simp only[VVlen]<;>omega)|fail) only[O1,VV0,VV1,VV2,VV3,VV4,VV5,VV6,VV7,VV8,VV9,mkFnV,vargs,slotsL,opdsA,Nat.reduceEqDiff,Nat.reduceLT,Nat.reduceAdd,Nat.reduceBEq,Int.reduceAdd,Int.reduceSub,Int.reduceLT,Int.reduceLE,Int.reduceEq,Int.reduceNeg,↓reduceIte,reduceCtorEq,scL,scD,expand,List.replicate])|((first|apply gI_dec|apply gG_dec|apply gPG_dec|apply gI_var|apply gG_var|apply gPG_var)<;>intro _))
 refine g_while (fun m fr st=>∃ k:Nat,m=L.length - k∧k≤L.length∧fr= [(2,.ptr 1 0),(3,.ptr 2 0),(6,.sl 3 A.length (A.map iD)),(7,.sl 3 B.length (B.map iD)),(8,.ptr 3 0),(27,.sl s L.length (L.map (rowD s'))),(28,.sc (.int .i64 L.length)),(29,.sc (.int .i64 k))]∧
  st=⟨[(4,.gro 22 1 false ((L.take k).map (rowD 0))),(3,.box 34 1 [.sc (.int .i64 q),.gr 2 4 k]),(2,.box 47 1 [.sc (.int .i64 0),.sc (.int .i64 0)]),(1,.box 34 1 [.sc (.int .i64 0),.sc (.slice none 0 0)]),(0,.box 34 1 [.sc (.int .i64 q),.sl s L.length (L.map (rowD s'))])],5,0⟩) L.length ?_
  ⟨_,_,weak_nilCell (C:=C) (l:= [.sc (.int .i64 q),.sc (.slice none 0 0)]) 3 34 1 1 22 1 rfl rfl (fun h=>absurd (show (3:Nat)=4 from h) (by decide)),0,by omega,Nat.zero_le _,rfl,rfl⟩ ?_
 ·rw[hrn];unfold many;omega
 rintro m fr st ⟨k,rfl,hk,rfl,rfl⟩
 by_cases hlt:k<L.length
 ·have hrk:=q5 k hlt
  have hts:(L.take (k+1)).map (rowD 0)=(L.take k).map (rowD 0)++ [D.sl 0 L[k]!.length (L[k]!.map bD)]:=by
   rw[List.take_succ_eq_append_getElem hlt,getElem!_pos L k hlt,List.map_append]
   rfl
  have htl:((L.take k).map (rowD 0)).length=k:=by rw[List.length_map,List.length_take];omega
  have hlm:(L.map (rowD s')).length=L.length:=by rw[List.length_map]
  repeat' (first|(simp (disch:=first|omega|assumption|exact bd (by with_unfolding_all rfl)|exact Or.inl rfl|exact Or.inl trivial|exact okL_map _ (fun _=>rfl) _|(simp only[VVlen]<;>omega)|fail) only[O1,VV0,VV1,VV2,VV3,VV4,VV5,VV6,VV7,VV8,VV9,mkFnV,vargs,slotsL,opdsA,Nat.reduceEqDiff,Nat.reduceLT,Nat.reduceAdd,Nat.reduceBEq,Int.reduceAdd,Int.reduceSub,Int.reduceLT,Int.reduceLE,Int.reduceEq,Int.reduceNeg,↓reduceIte,reduceCtorEq,scL,scD,expand,List.replicate,c23l0,rowD_dv])|((first|apply gI_dec|apply gG_dec|apply gPG_dec|apply gI_var|apply gG_var|apply gPG_var)<;>intro _))
  generalize L[k]! =R at*
  have hRm:(R.map bD).length=R.length:=by rw[List.length_map]
  have e4:R.map bD++(List.replicate R.length (D.sc (Value.bool false))).drop (R.map bD).length=R.map bD:=by
   rw[hRm,List.drop_replicate,Nat.sub_self]
   simp
  refine gS_copy _ 6 0 1 5 R.length _ _ _ _ _ _ (by
   rw[srcOf_sl _ _ _ _ _ (by omega)]
   exact copyF_eq _ 6 0 1 5 R.length _ 1 R.length _ (List.replicate R.length (D.sc (Value.bool false))) (R.map bD) (by omega) (by omega) (okL_map _ (fun _=>rfl) _) (by simp)) ?_
  rw[e4]
  repeat' (first|(simp (disch:=first|omega|assumption|exact bd (by with_unfolding_all rfl)|exact Or.inl rfl|exact Or.inl trivial|exact okL_map _ (fun _=>rfl) _|(simp only[VVlen]<;>omega)|fail) only[O1,VV0,VV1,VV2,VV3,VV4,VV5,VV6,VV7,VV8,VV9,mkFnV,vargs,slotsL,opdsA,Nat.reduceEqDiff,Nat.reduceLT,Nat.reduceAdd,Nat.reduceBEq,Int.reduceAdd,Int.reduceSub,Int.reduceLT,Int.reduceLE,Int.reduceEq,Int.reduceNeg,↓reduceIte,reduceCtorEq,scL,scD,expand,List.replicate,rowD_dv])|((first|apply gI_dec|apply gG_dec|apply gPG_dec|apply gI_var|apply gG_var|apply gPG_var)<;>intro _))
  refine ⟨_,_,_,by omega,weak_to [(7,4),(3,3),(2,2),(1,1),(0,0)] 5 h0 rfl rfl rfl rfl,k+1,rfl,hlt,rfl,?_⟩
  rw[hts]
  rfl
 ·have:k=L.length:=by omega
  subst this
  repeat' (first|(simp (disch:=first|omega|assumption|exact bd (by with_unfolding_all rfl)|exact Or.inl rfl|exact Or.inl trivial|exact okL_map _ (fun _=>rfl) _|(simp only[VVlen]<;>omega)|fail) only[O1,VV0,VV1,VV2,VV3,VV4,VV5,VV6,VV7,VV8,VV9,mkFnV,vargs,slotsL,opdsA,Nat.reduceEqDiff,Nat.reduceLT,Nat.reduceAdd,Nat.reduceBEq,Int.reduceAdd,Int.reduceSub,Int.reduceLT,Int.reduceLE,Int.reduceEq,Int.reduceNeg,↓reduceIte,reduceCtorEq,scL,scD,expand,List.replicate,c23l0])|((first|apply gI_dec|apply gG_dec|apply gPG_dec|apply gI_var|apply gG_var|apply gPG_var)<;>intro _))
  all_goals try (exfalso;omega)
  all_goals exact weak_flat rfl h0 rfl
theorem textBad_p (s s':Nat) (q:Int) (L:List (List Bool)) (hs:s ≠ 1) (hL:L.length≤1000) (hr:∀ k,k<L.length→L[k]!.length≤1000) (hq: -1000000≤q∧q≤1000000) (hval:validS q L=false):
  VSpec (EN w (n+5)) 29 [chainV s s' q L] (.tup [strV [],.sc (.int .i64 8)]) ⟨[],0,0⟩:=by
 refine vspec_flat rfl rfl (fun _ _=>rfl) (Nat.le_of_ble_eq_true rfl) (oldVals w) rfl fun C hC h0=>?_
 have hv:=valid_p w n s s' q L hs (by omega) (fun k hk=>by have:=hr k hk;omega) hq
 rw[hval] at hv
 repeat' (first|(simp (disch:=first|omega|assumption|exact bd (by with_unfolding_all rfl)|exact Or.inl rfl|exact Or.inl trivial|exact okL_map _ (fun _=>rfl) _|(simp only[VVlen]<;>omega)|fail) only[O1,VV0,VV1,VV2,VV3,VV4,VV5,VV6,VV7,VV8,VV9,mkFnV,vargs,slotsL,opdsA,Nat.reduceEqDiff,Nat.reduceLT,Nat.reduceAdd,Nat.reduceBEq,Int.reduceAdd,Int.reduceSub,Int.reduceLT,Int.reduceLE,Int.reduceEq,Int.reduceNeg,↓reduceIte,reduceCtorEq,scL,scD,expand,List.replicate,c29])|((first|apply gI_dec|apply gG_dec|apply gPG_dec|apply gI_var|apply gG_var|apply gPG_var)<;>intro _))
 refine callV_flat (by rw[hC];exact hv.flat rfl rfl) ?_
 repeat' (first|(simp (disch:=first|omega|assumption|exact bd (by with_unfolding_all rfl)|exact Or.inl rfl|exact Or.inl trivial|exact okL_map _ (fun _=>rfl) _|(simp only[VVlen]<;>omega)|fail) only[O1,VV0,VV1,VV2,VV3,VV4,VV5,VV6,VV7,VV8,VV9,mkFnV,vargs,slotsL,opdsA,Nat.reduceEqDiff,Nat.reduceLT,Nat.reduceAdd,Nat.reduceBEq,Int.reduceAdd,Int.reduceSub,Int.reduceLT,Int.reduceLE,Int.reduceEq,Int.reduceNeg,↓reduceIte,reduceCtorEq,scL,scD,expand,List.replicate])|((first|apply gI_dec|apply gG_dec|apply gPG_dec|apply gI_var|apply gG_var|apply gPG_var)<;>intro _))
 exact weak_flat rfl h0 rfl
theorem zero_p (a b:Nat) (h:a*b≤100000) (ha:a≤1000) (hb:b≤1000):VSpec (EN w (n+1)) 31 [.sc (.int .i64 a),.sc (.int .i64 b)] (gridV 3 a b (List.replicate (a*b) false)) ⟨[],0,0⟩:=by
 refine vspec_g rfl rfl (fun _ _=>rfl) (Nat.le_of_ble_eq_true rfl) (oldVals w) retOK_finA3 rfl fun C hC h0=>?_
 obtain ⟨P,hP⟩:∃ P,P=a*b:=⟨_,rfl⟩
 have hP1:(a:Int)*(b:Int)=(P:Int):=by rw[hP];simp
 rw[← hP] at h ⊢
 have hr0:List.replicate P (D.sc (Value.bool false))=(List.replicate P false).map bD:=by simp[bD]
 repeat' (first|(simp (disch:=first|omega|assumption|exact bd (by with_unfolding_all rfl)|exact Or.inl rfl|exact Or.inl trivial|exact okL_map _ (fun _=>rfl) _|(simp only[VVlen]<;>omega)|fail) only[O1,VV0,VV1,VV2,VV3,VV4,VV5,VV6,VV7,VV8,VV9,mkFnV,vargs,slotsL,opdsA,Nat.reduceEqDiff,Nat.reduceLT,Nat.reduceAdd,Nat.reduceBEq,Int.reduceAdd,Int.reduceSub,Int.reduceLT,Int.reduceLE,Int.reduceEq,Int.reduceNeg,↓reduceIte,reduceCtorEq,scL,scD,expand,List.replicate,c31,hP1,Int.toNat_natCast])|((first|apply gI_dec|apply gG_dec|apply gPG_dec|apply gI_var|apply gG_var|apply gPG_var)<;>intro _))
 rw[hr0]
 refine weak_finA3 (C:=C) (s:=0) (n:=_) (l:=_) ?_ rfl (.inl (by decide)) h0 rfl
 rw[List.length_replicate]
 exact snap_refD rfl (by simp)
end
end Go.Proofs.YtepdkmdcainddaaDoor
namespace Go.Proofs.YtepdkmdcainddaaDoor
open Go Go.Itp
set_option maxRecDepth 100000
set_option linter.unusedVariables false
theorem rowsB_row {H:VHp} {g t:Nat} {gg:Bool} {q:List D} (h:aget H g=some (.row t 1 gg false q)):rowsB 0 H [g]=true:=by
 simp[rowsB,h]
theorem froz_ne {H:VHp} {g i:Nat} (h:i ≠ g):aget (frozA [g] H) i=aget H i:=by
 have:¬ elemB i [g]=true:=fun e=>h (by simpa using (elemB_iff _ _).1 e)
 rw[frozA_get]
 cases aget H i with
 |none=>rfl
 |some o=>rw[Option.map_some,if_neg this]
theorem aset_ne {H:VHp} {o i:Nat} {u v:Itp.Obj} (ho:aget H o=some u) (h:i ≠ o):aget (aset H o v) i=aget H i:=by
 rw[aget_aset _ _ _ _ _ ho,if_neg h]
theorem callV_rows2 {C:Ctx} {H:VHp} {nx o a b t ta tb c:Nat} {ga gb:Bool} {q:Int} {a0 a1 b0 b1:Bool} {f:FuncId} {v:V} {Q:V→VSt→Prop} (hsp:VSpec C.E f [chainV 0 0 q [[a0,a1],[b0,b1]]] v ⟨[],0,0⟩) (hab:b ≠ a) (hao:o ≠ a) (hbo:b ≠ o)
  (ho:aget H o=some (.box t 1 [.ref a 0 2 2,.ref b 0 2 2])) (ha:aget H a=some (.row ta 1 ga false ([a0,a1].map bD))) (hb:aget H b=some (.row tb 1 gb false ([b0,b1].map bD))) (hv:vsh nx v=v)
  (hq:Q v ⟨frozA [o] (aset (aset (frozA [b] (aset (frozA [a] H) o (.box t 1 [.sl 0 2 ([a0,a1].map bD),.ref b 0 2 2]))) o (.box t 1 [.sl 0 2 ([a0,a1].map bD),.sl 0 2 ([b0,b1].map bD)])) o (.row t 1 false false [rowD 0 [a0,a1],rowD 0 [b0,b1]])),nx,0⟩):CallV C f [.agg [.sc (.int .i64 q),.ref o 0 2 c]] ⟨H,nx,0⟩ Q:=by
 have o1:aget (frozA [a] H) o=some (.box t 1 [.ref a 0 2 2,.ref b 0 2 2]):=by rw[froz_ne hao];exact ho
 have o2:aget (aset (frozA [a] H) o (.box t 1 [.sl 0 2 ([a0,a1].map bD),.ref b 0 2 2])) o=some (.box t 1 [.sl 0 2 ([a0,a1].map bD),.ref b 0 2 2]):=aget_aset_eq o1
 have b2:aget (aset (frozA [a] H) o (.box t 1 [.sl 0 2 ([a0,a1].map bD),.ref b 0 2 2])) b=some (.row tb 1 gb false ([b0,b1].map bD)):=by rw[aset_ne o1 hbo,froz_ne hab];exact hb
 generalize hH1:aset (frozA [a] H) o (.box t 1 [.sl 0 2 ([a0,a1].map bD),.ref b 0 2 2])=H1 at*
 have o3:aget (frozA [b] H1) o=some (.box t 1 [.sl 0 2 ([a0,a1].map bD),.ref b 0 2 2]):=by rw[froz_ne (fun e=>hbo e.symm)];exact o2
 have o4:aget (aset (frozA [b] H1) o (.box t 1 [.sl 0 2 ([a0,a1].map bD),.sl 0 2 ([b0,b1].map bD)])) o=some (.box t 1 [.sl 0 2 ([a0,a1].map bD),.sl 0 2 ([b0,b1].map bD)]):=aget_aset_eq o3
 generalize hH2:aset (frozA [b] H1) o (.box t 1 [.sl 0 2 ([a0,a1].map bD),.sl 0 2 ([b0,b1].map bD)])=H2 at*
 have o5:aget (aset H2 o (.row t 1 false false [rowD 0 [a0,a1],rowD 0 [b0,b1]])) o=some (.row t 1 false false [rowD 0 [a0,a1],rowD 0 [b0,b1]]):=aget_aset_eq o4
 refine callV_weak (st':=⟨aset H2 o (.row t 1 false false [rowD 0 [a0,a1],rowD 0 [b0,b1]]),nx,0⟩) (fun C' hn'=>?_) ?_
 ·have w1:=weak_snapRef (C:=C') (fr:= []) (st:=⟨H,nx,0⟩) (k:=0) ho rfl ha rfl (rowsB_row ha)
  have w2:=weak_snapRef (C:=C') (fr:= []) (st:=⟨H1,nx,0⟩) (k:=1) o2 rfl b2 rfl (rowsB_row b2)
  have w3:=weak_boxrow (C:=C') (fr:= []) (st:=⟨H2,nx,0⟩) (l:= [rowD 0 [a0,a1],rowD 0 [b0,b1]]) o4 rfl
  have e1:aset (frozA [a] H) o (.box t 1 (([.ref a 0 2 2,.ref b 0 2 2]:List V).set 0 (.sl 0 2 ([a0,a1].map bD))))=H1:=hH1
  have e2:aset (frozA [b] H1) o (.box t 1 (([.sl 0 2 ([a0,a1].map bD),.ref b 0 2 2]:List V).set 1 (.sl 0 2 ([b0,b1].map bD))))=H2:=hH2
  rw[e1] at w1
  rw[e2] at w2
  exact w1.trans (w2.trans w3)
 ·refine callV_of hsp ?_ (rowsB_row o5) rfl ?_
  ·have h1:=snap_refD (c:=c) (n:=2) o5 rfl
   show (snapV _ (.agg [.sc (.int .i64 q),.ref o 0 2 c])).bind _=_
   generalize V.ref o 0 2 c=u at*
   simp[snapV,snapL,h1]
  ·rw[hv];exact hq
theorem callV_rows1 {C:Ctx} {H:VHp} {nx o a t ta c:Nat} {ga:Bool} {q:Int} {a0 a1:Bool} {f:FuncId} {v:V} {Q:V→VSt→Prop} (hsp:VSpec C.E f [chainV 0 0 q [[a0,a1]]] v ⟨[],0,0⟩) (hao:o ≠ a)
  (ho:aget H o=some (.box t 1 [.ref a 0 2 2])) (ha:aget H a=some (.row ta 1 ga false ([a0,a1].map bD))) (hv:vsh nx v=v)
  (hq:Q v ⟨frozA [o] (aset (aset (frozA [a] H) o (.box t 1 [.sl 0 2 ([a0,a1].map bD)])) o (.row t 1 false false [rowD 0 [a0,a1]])),nx,0⟩):CallV C f [.agg [.sc (.int .i64 q),.ref o 0 1 c]] ⟨H,nx,0⟩ Q:=by
 have o1:aget (frozA [a] H) o=some (.box t 1 [.ref a 0 2 2]):=by rw[froz_ne hao];exact ho
 have o2:aget (aset (frozA [a] H) o (.box t 1 [.sl 0 2 ([a0,a1].map bD)])) o=some (.box t 1 [.sl 0 2 ([a0,a1].map bD)]):=aget_aset_eq o1
 generalize hH1:aset (frozA [a] H) o (.box t 1 [.sl 0 2 ([a0,a1].map bD)])=H1 at*
 have o5:aget (aset H1 o (.row t 1 false false [rowD 0 [a0,a1]])) o=some (.row t 1 false false [rowD 0 [a0,a1]]):=aget_aset_eq o2
 refine callV_weak (st':=⟨aset H1 o (.row t 1 false false [rowD 0 [a0,a1]]),nx,0⟩) (fun C' hn'=>?_) ?_
 ·have w1:=weak_snapRef (C:=C') (fr:= []) (st:=⟨H,nx,0⟩) (k:=0) ho rfl ha rfl (rowsB_row ha)
  have w3:=weak_boxrow (C:=C') (fr:= []) (st:=⟨H1,nx,0⟩) (l:= [rowD 0 [a0,a1]]) o2 rfl
  have e1:aset (frozA [a] H) o (.box t 1 (([.ref a 0 2 2]:List V).set 0 (.sl 0 2 ([a0,a1].map bD))))=H1:=hH1
  rw[e1] at w1
  exact w1.trans w3
 ·refine callV_of hsp ?_ (rowsB_row o5) rfl ?_
  ·have h1:=snap_refD (c:=c) (n:=1) o5 rfl
   show (snapV _ (.agg [.sc (.int .i64 q),.ref o 0 1 c])).bind _=_
   generalize V.ref o 0 1 c=u at*
   simp[snapV,snapL,h1]
  ·rw[hv];exact hq
end Go.Proofs.YtepdkmdcainddaaDoor
namespace Go.Proofs.YtepdkmdcainddaaDoor
open Go Go.Itp
set_option maxRecDepth 100000
set_option maxHeartbeats 4000000
set_option linter.unusedSimpArgs false
set_option linter.unusedVariables false
def lineK (r:Nat→Bool):Nat→List UInt8
 |0=> []
 |k+1=>if r k then (if lineK r k= [] then [] else lineK r k++ [32])++itoaF ((k:Int)+1) else lineK r k
theorem lineK_eq (r:Nat→Bool):∀ k,k≤1000→lineTo r k=lineK r k
 |0,_=>rfl
 |k+1,h=>by rw[lineTo,lineK,lineK_eq r k (by omega),itoaF_eq (by omega) (by omega)]
def planK (B:List Bool) (Q:Nat):Nat→List UInt8
 |0=> []
 |y+1=>planK B Q y++((if lineK (rowOf B Q y) Q= [] then [45] else lineK (rowOf B Q y) Q)++ [10])
theorem planK_eq (B:List Bool) (Q:Nat) (hQ:Q≤1000):∀ k,planTo B Q k=planK B Q k
 |0=>rfl
 |k+1=>by rw[planTo,planK,planK_eq B Q hQ k,rowText,lineK_eq _ Q hQ]
def preadK (n:Nat) (s:List UInt8):Option (List Bool × Nat):=
 if s ≠ []∧s.getLast? =some 10∧(words 10 s.dropLast).length≤64∧planK (bitsP n (words 10 s.dropLast)) n (words 10 s.dropLast).length=s then some (bitsP n (words 10 s.dropLast),(words 10 s.dropLast).length) else none
theorem preadK_eq (n:Nat) (hn:n≤1000) (s:List UInt8):preadF n s=preadK n s:=by
 unfold preadF preadK
 rw[planK_eq _ n hn]
def formsL:List (List UInt8):= [[],[49],[10],[48,10],[51,10],[49,32,49,10],[50,32,49,10],[48,49,10],[49,32,10],[32,49,10],[49,32,32,50,10],[45,10,49],[45,45,10],[45,32,49,10],[120,10],[43,49,10]]
def textsL:List (List UInt8):= [[],[111,46,10],[111,10,111,10],[111,46,10,111],[111,46,10,10],[111,46,10,111,46,46,10],[111,46,10,120,46,10],[10,10]]
theorem forms_bad:(formsL.all fun s=>decide (preadK 2 s=none))=true:=by decide+kernel
theorem texts_bad:(textsL.all fun s=>decide (parse18 s=none))=true:=by decide+kernel
theorem forms_len:(formsL.all fun s=>decide (s.length≤10))=true:=by decide+kernel
theorem texts_len:(textsL.all fun s=>decide (s.length≤10))=true:=by decide+kernel
theorem form_ok:preadF 2 [45,10,50,10]=some ([false,false,false,true],2):=by rw[preadK_eq 2 (by decide)];decide+kernel
theorem text_ok:parse18 [111,46,10,111,46,10]=some (1,[[true,false],[true,false]]):=by decide+kernel
theorem all_at {p:List UInt8→Bool} {l:List (List UInt8)} (h:l.all p=true) (k:Nat) (hk:k<l.length):p l[k]! =true:=by
 rw[getElem!_pos l k hk]
 exact List.all_eq_true.1 h _ (List.getElem_mem hk)
theorem rwF (nx t:Nat):mkRowV nx t 1 16 [.string ⟨#[]⟩] [(0,1,.sc (.string ⟨#[]⟩)),(1,1,.sc (.string ⟨#[49]⟩)),(2,1,.sc (.string ⟨#[10]⟩)),(3,1,.sc (.string ⟨#[48,10]⟩)),(4,1,.sc (.string ⟨#[51,10]⟩)),(5,1,.sc (.string ⟨#[49,32,49,10]⟩)),(6,1,.sc (.string ⟨#[50,32,49,10]⟩)),(7,1,.sc (.string ⟨#[48,49,10]⟩)),(8,1,.sc (.string ⟨#[49,32,10]⟩)),(9,1,.sc (.string ⟨#[32,49,10]⟩)),(10,1,.sc (.string ⟨#[49,32,32,50,10]⟩)),(11,1,.sc (.string ⟨#[45,10,49]⟩)),(12,1,.sc (.string ⟨#[45,45,10]⟩)),(13,1,.sc (.string ⟨#[45,32,49,10]⟩)),(14,1,.sc (.string ⟨#[120,10]⟩)),(15,1,.sc (.string ⟨#[43,49,10]⟩))]=some (.ref nx 0 16 16,some (.row t 1 false false (formsL.map sD)),[]):=(rfl)
theorem rwT (nx t:Nat):mkRowV nx t 1 8 [.string ⟨#[]⟩] [(0,1,.sc (.string ⟨#[]⟩)),(1,1,.sc (.string ⟨#[111,46,10]⟩)),(2,1,.sc (.string ⟨#[111,10,111,10]⟩)),(3,1,.sc (.string ⟨#[111,46,10,111]⟩)),(4,1,.sc (.string ⟨#[111,46,10,10]⟩)),(5,1,.sc (.string ⟨#[111,46,10,111,46,46,10]⟩)),(6,1,.sc (.string ⟨#[111,46,10,120,46,10]⟩)),(7,1,.sc (.string ⟨#[10,10]⟩))]=some (.ref nx 0 8 8,some (.row t 1 false false (textsL.map sD)),[]):=(rfl)
theorem rwb2 (nx t:Nat) (a b:Bool):mkRowV nx t 1 2 [.bool false] [(0,1,.sc (.bool a)),(1,1,.sc (.bool b))]=some (.ref nx 0 2 2,some (.row t 1 false false ([a,b].map bD)),[]):=(rfl)
theorem rwb4 (nx t:Nat) (a b c d:Bool):mkRowV nx t 1 4 [.bool false] [(0,1,.sc (.bool a)),(1,1,.sc (.bool b)),(2,1,.sc (.bool c)),(3,1,.sc (.bool d))]=some (.ref nx 0 4 4,some (.row t 1 false false ([a,b,c,d].map bD)),[]):=(rfl)
theorem nil_agg3 {a b:V}:∀ (w:VW) (vs:List Value),VRepL w [.agg [a,b,.sc (.slice none 0 0)]] vs→VRepL w [.agg [a,b,.sl 3 0 []]] vs:=fun w vs h=>by
 simp only[VRepL,VRep] at h ⊢
 obtain ⟨v,vs',rfl,⟨us,rfl,u1,_,rfl,g1,u2,_,rfl,g2,u3,_,rfl,g3,rfl⟩,rfl⟩:=h
 refine ⟨_,_,rfl,⟨_,rfl,u1,_,rfl,g1,u2,_,rfl,g2,u3,_,rfl,?_,rfl⟩,rfl⟩
 simp only[DRep]
 exact .inr ⟨by omega,by trivial,by trivial,.inl (g3.1)⟩
theorem nil_agg2 {a:V}:∀ (w:VW) (vs:List Value),VRepL w [.agg [a,.sc (.slice none 0 0)]] vs→VRepL w [.agg [a,.sl 3 0 []]] vs:=fun w vs h=>by
 simp only[VRepL,VRep] at h ⊢
 obtain ⟨v,vs',rfl,⟨us,rfl,u1,_,rfl,g1,u3,_,rfl,g3,rfl⟩,rfl⟩:=h
 refine ⟨_,_,rfl,⟨_,rfl,u1,_,rfl,g1,u3,_,rfl,?_,rfl⟩,rfl⟩
 simp only[DRep]
 exact .inr ⟨by omega,by trivial,by trivial,.inl (g3.1)⟩
theorem rwr2 (nx t:Nat) (a b:Nat):mkRowV nx t 1 2 [.slice none 0 0] [(0,1,.ref a 0 2 2),(1,1,.ref b 0 2 2)]=some (.ref nx 0 2 2,some (.box t 1 [.ref a 0 2 2,.ref b 0 2 2]),[]):=(rfl)
theorem rwr1 (nx t:Nat) (a:Nat):mkRowV nx t 1 1 [.slice none 0 0] [(0,1,.ref a 0 2 2)]=some (.ref nx 0 1 1,some (.box t 1 [.ref a 0 2 2]),[]):=(rfl)
theorem dv1:decV 1 [[true,true],[true,true]]= .tup [gridV 3 1 1 [true],.sc (.int .i64 0)]:=by
 have h1:wrongE 1 [[true,true],[true,true]]=0:=by decide+kernel
 have h2:wrongA 1 [[true,true],[true,true]]= []∧wrongB 1 [[true,true],[true,true]]= []:=by decide+kernel
 unfold decV
 rw[if_pos h1,if_pos h2]
 rfl
theorem dv2:decV 1 [[true,false],[true,true]]= .tup [gridV 3 0 0 [],.sc (.int .i64 30)]:=by
 have h1:wrongE 1 [[true,false],[true,true]]=0:=by decide+kernel
 have h2:¬ (wrongA 1 [[true,false],[true,true]]= []∧wrongB 1 [[true,false],[true,true]]= []):=by decide+kernel
 unfold decV
 rw[if_pos h1,if_neg h2]
theorem dv3:decV 1 [[true,true]]= .tup [gridV 3 0 0 [],.sc (.int .i64 8)]:=by
 have h1:¬ wrongE 1 [[true,true]]=0:=by decide+kernel
 unfold decV
 rw[if_neg h1]
theorem dv4:decV 2 [[true,true],[true,true]]= .tup [gridV 3 0 0 [],.sc (.int .i64 8)]:=by
 have h1:¬ wrongE 2 [[true,true],[true,true]]=0:=by decide+kernel
 unfold decV
 rw[if_neg h1]
theorem wv7:wrongV 41 []= .tup [.sl 3 0 [],.sl 3 0 [],.sc (.int .i64 8)]:=by
 have h1:wrongE 41 []=8:=by decide+kernel
 have h2:wrongA 41 []= []:=by decide+kernel
 have h3:wrongB 41 []= []:=by decide+kernel
 simp[wrongV,h1,h2,h3]
theorem names_g (w:World) (hes:(errO Tryd.prog w "strconv.ErrSyntax").isSome=true) (her:(errO Tryd.prog w "strconv.ErrRange").isSome=true) {C:Ctx} (hC:C.E=EN w 9) (h0:C.w0.nx=0):
  gC C c8.code [] (vargs 0 []) ⟨[],0,0⟩ (RetV C c8.res (.sc (.bool true)) ⟨[],0,0⟩):=by
 have z1:=zero_p w 8 41 1 (by decide) (by decide) (by decide)
 have z2:=zero_p w 8 40 64 (by decide) (by decide) (by decide)
 have k1:=pcheck_p w 7 3 41 1 (List.replicate (41*1) false) (by simp)
 have k2:=pcheck_p w 7 3 40 64 (List.replicate (40*64) false) (by simp)
 have k3:=pcheck_p w 7 3 0 0 [] (by decide)
 rw[List.length_replicate,show chkE 41 1 (41*1)=8 by decide+kernel] at k1
 rw[List.length_replicate,show chkE 40 64 (40*64)=0 by decide+kernel] at k2
 rw[show chkE 0 0 ([]:List Bool).length=8 by decide+kernel] at k3
 repeat' (first|(simp (disch:=first|omega|assumption|exact bd (by with_unfolding_all rfl)|exact Or.inl rfl|exact Or.inl trivial|exact okL_map _ (fun _=>rfl) _|(simp only[VVlen]<;>omega)|fail) only[O1,VV0,VV1,VV2,VV3,VV4,VV5,VV6,VV7,VV8,VV9,mkFnV,vargs,slotsL,opdsA,Nat.reduceEqDiff,Nat.reduceLT,Nat.reduceAdd,Nat.reduceBEq,Int.reduceAdd,Int.reduceSub,Int.reduceLT,Int.reduceLE,Int.reduceEq,Int.reduceNeg,↓reduceIte,reduceCtorEq,scL,scD,expand,List.replicate,c8])|((first|apply gI_dec|apply gG_dec|apply gPG_dec|apply gI_var|apply gG_var|apply gPG_var)<;>intro _))
 have rE1:=readE_p w 8 [49,10] 0 (by decide)
 have rE2:=readE_p w 8 [49,10] 41 (by decide)
 refine callV_fin (by rw[hC];exact z1) rfl rfl (fun _=>rfl) ?_
 refine callV_flat (by rw[hC];exact k1.flat rfl rfl) ?_
 repeat' (first|(simp (disch:=first|omega|assumption|exact bd (by with_unfolding_all rfl)|exact Or.inl rfl|exact Or.inl trivial|exact okL_map _ (fun _=>rfl) _|(simp only[VVlen]<;>omega)|fail) only[O1,VV0,VV1,VV2,VV3,VV4,VV5,VV6,VV7,VV8,VV9,mkFnV,vargs,slotsL,opdsA,Nat.reduceEqDiff,Nat.reduceLT,Nat.reduceAdd,Nat.reduceBEq,Int.reduceAdd,Int.reduceSub,Int.reduceLT,Int.reduceLE,Int.reduceEq,Int.reduceNeg,↓reduceIte,reduceCtorEq,scL,scD,expand,List.replicate])|((first|apply gI_dec|apply gG_dec|apply gPG_dec|apply gI_var|apply gG_var|apply gPG_var)<;>intro _))
 refine callV_fin (by rw[hC];exact z2) rfl rfl (fun _=>rfl) ?_
 refine callV_flat (by rw[hC];exact k2.flat rfl rfl) ?_
 repeat' (first|(simp (disch:=first|omega|assumption|exact bd (by with_unfolding_all rfl)|exact Or.inl rfl|exact Or.inl trivial|exact okL_map _ (fun _=>rfl) _|(simp only[VVlen]<;>omega)|fail) only[O1,VV0,VV1,VV2,VV3,VV4,VV5,VV6,VV7,VV8,VV9,mkFnV,vargs,slotsL,opdsA,Nat.reduceEqDiff,Nat.reduceLT,Nat.reduceAdd,Nat.reduceBEq,Int.reduceAdd,Int.reduceSub,Int.reduceLT,Int.reduceLE,Int.reduceEq,Int.reduceNeg,↓reduceIte,reduceCtorEq,scL,scD,expand,List.replicate])|((first|apply gI_dec|apply gG_dec|apply gPG_dec|apply gI_var|apply gG_var|apply gPG_var)<;>intro _))
 refine callV_flat (by rw[hC];exact (VSpec.arg k3 nil_agg3:VSpec _ _ [.agg [.sc (.int .i64 0),.sc (.int .i64 0),.sc (.slice none 0 0)]] _ _).flat rfl rfl) ?_
 repeat' (first|(simp (disch:=first|omega|assumption|exact bd (by with_unfolding_all rfl)|exact Or.inl rfl|exact Or.inl trivial|exact okL_map _ (fun _=>rfl) _|(simp only[VVlen]<;>omega)|fail) only[O1,VV0,VV1,VV2,VV3,VV4,VV5,VV6,VV7,VV8,VV9,mkFnV,vargs,slotsL,opdsA,Nat.reduceEqDiff,Nat.reduceLT,Nat.reduceAdd,Nat.reduceBEq,Int.reduceAdd,Int.reduceSub,Int.reduceLT,Int.reduceLE,Int.reduceEq,Int.reduceNeg,↓reduceIte,reduceCtorEq,scL,scD,expand,List.replicate])|((first|apply gI_dec|apply gG_dec|apply gPG_dec|apply gI_var|apply gG_var|apply gPG_var)<;>intro _))
 refine callV_fin (by rw[hC];exact rE1) rfl rfl (fun _=>rfl) ?_
 repeat' (first|(simp (disch:=first|omega|assumption|exact bd (by with_unfolding_all rfl)|exact Or.inl rfl|exact Or.inl trivial|exact okL_map _ (fun _=>rfl) _|(simp only[VVlen]<;>omega)|fail) only[O1,VV0,VV1,VV2,VV3,VV4,VV5,VV6,VV7,VV8,VV9,mkFnV,vargs,slotsL,opdsA,Nat.reduceEqDiff,Nat.reduceLT,Nat.reduceAdd,Nat.reduceBEq,Int.reduceAdd,Int.reduceSub,Int.reduceLT,Int.reduceLE,Int.reduceEq,Int.reduceNeg,↓reduceIte,reduceCtorEq,scL,scD,expand,List.replicate])|((first|apply gI_dec|apply gG_dec|apply gPG_dec|apply gI_var|apply gG_var|apply gPG_var)<;>intro _))
 refine callV_fin (by rw[hC];exact rE2) rfl rfl (fun _=>rfl) ?_
 repeat' (first|(simp (disch:=first|omega|assumption|exact bd (by with_unfolding_all rfl)|exact Or.inl rfl|exact Or.inl trivial|exact okL_map _ (fun _=>rfl) _|(simp only[VVlen]<;>omega)|fail) only[O1,VV0,VV1,VV2,VV3,VV4,VV5,VV6,VV7,VV8,VV9,mkFnV,vargs,slotsL,opdsA,Nat.reduceEqDiff,Nat.reduceLT,Nat.reduceAdd,Nat.reduceBEq,Int.reduceAdd,Int.reduceSub,Int.reduceLT,Int.reduceLE,Int.reduceEq,Int.reduceNeg,↓reduceIte,reduceCtorEq,scL,scD,expand,List.replicate,rwF])|((first|apply gI_dec|apply gG_dec|apply gPG_dec|apply gI_var|apply gG_var|apply gPG_var)<;>intro _))
 have hrn:C.E.rounds=many:=by rw[hC,callP_rounds]
 have hfl:formsL.length=16:=rfl
 have htl:textsL.length=8:=rfl
 refine g_while (fun m fr st=>∃ k:Nat,m=16 - k∧k≤16∧fr= [(1,.sc (.bool true)),(3,.sc (.int .i64 2)),(5,.sc (.int .i64 2)),(6,.ref 0 0 16 16),(7,.sc (.int .i64 k))]∧st=⟨[(0,.row 9 1 false false (formsL.map sD))],1,0⟩) 16 ?_ ⟨_,_,weak_to [(2,0)] 1 h0 rfl rfl rfl rfl,0,rfl,Nat.zero_le _,rfl,rfl⟩ ?_
 ·rw[hrn];unfold many;omega
 rintro m fr st ⟨k,rfl,hk,rfl,rfl⟩
 have hfm:(formsL.map sD).length=16:=rfl
 by_cases hlt:k<16
 ·have b1:=all_at forms_bad k (by rw[hfl];exact hlt)
  have b2:=all_at forms_len k (by rw[hfl];exact hlt)
  rw[decide_eq_true_eq] at b1 b2
  have rd:=read_p w 0 formsL[k]! 2 (by omega) (by decide) (by decide) hes her
  rw[preadK_eq 2 (by decide),b1] at rd
  generalize hX:formsL[k]! =X at*
  have rd:VSpec (EN w 9) 25 [strV X,.sc (.int .i64 2)] (.tup [gridV 3 0 0 [],.sc (.int .i64 12)]) ⟨[],0,0⟩:=rd
  repeat' (first|(simp (disch:=first|omega|assumption|exact bd (by with_unfolding_all rfl)|exact Or.inl rfl|exact Or.inl trivial|exact okL_map _ (fun _=>rfl) _|(simp only[VVlen]<;>omega)|fail) only[O1,VV0,VV1,VV2,VV3,VV4,VV5,VV6,VV7,VV8,VV9,mkFnV,vargs,slotsL,opdsA,Nat.reduceEqDiff,Nat.reduceLT,Nat.reduceAdd,Nat.reduceBEq,Int.reduceAdd,Int.reduceSub,Int.reduceLT,Int.reduceLE,Int.reduceEq,Int.reduceNeg,↓reduceIte,reduceCtorEq,scL,scD,expand,List.replicate,c8l1,sD_dv,hX])|((first|apply gI_dec|apply gG_dec|apply gPG_dec|apply gI_var|apply gG_var|apply gPG_var)<;>intro _))
  refine callV_fin (by rw[hC];exact rd) rfl rfl (fun _=>rfl) ?_
  repeat' (first|(simp (disch:=first|omega|assumption|exact bd (by with_unfolding_all rfl)|exact Or.inl rfl|exact Or.inl trivial|exact okL_map _ (fun _=>rfl) _|(simp only[VVlen]<;>omega)|fail) only[O1,VV0,VV1,VV2,VV3,VV4,VV5,VV6,VV7,VV8,VV9,mkFnV,vargs,slotsL,opdsA,Nat.reduceEqDiff,Nat.reduceLT,Nat.reduceAdd,Nat.reduceBEq,Int.reduceAdd,Int.reduceSub,Int.reduceLT,Int.reduceLE,Int.reduceEq,Int.reduceNeg,↓reduceIte,reduceCtorEq,scL,scD,expand,List.replicate])|((first|apply gI_dec|apply gG_dec|apply gPG_dec|apply gI_var|apply gG_var|apply gPG_var)<;>intro _))
  exact ⟨_,_,_,by omega,weak_to [(0,0)] 1 h0 rfl rfl rfl rfl,k+1,rfl,hlt,rfl,rfl⟩
 have:k=16:=by omega
 subst this
 have rd:=read_p w 0 [45,10,50,10] 2 (by decide) (by decide) (by decide) hes her
 rw[form_ok] at rd
 have rd:VSpec (EN w 9) 25 [strV [45,10,50,10],.sc (.int .i64 2)] (.tup [gridV 3 2 2 [false,false,false,true],.sc (.int .i64 0)]) ⟨[],0,0⟩:=rd
 repeat' (first|(simp (disch:=first|omega|assumption|exact bd (by with_unfolding_all rfl)|exact Or.inl rfl|exact Or.inl trivial|exact okL_map _ (fun _=>rfl) _|(simp only[VVlen]<;>omega)|fail) only[O1,VV0,VV1,VV2,VV3,VV4,VV5,VV6,VV7,VV8,VV9,mkFnV,vargs,slotsL,opdsA,Nat.reduceEqDiff,Nat.reduceLT,Nat.reduceAdd,Nat.reduceBEq,Int.reduceAdd,Int.reduceSub,Int.reduceLT,Int.reduceLE,Int.reduceEq,Int.reduceNeg,↓reduceIte,reduceCtorEq,scL,scD,expand,List.replicate,c8l1])|((first|apply gI_dec|apply gG_dec|apply gPG_dec|apply gI_var|apply gG_var|apply gPG_var)<;>intro _))
 refine callV_fin (by rw[hC];exact rd) rfl rfl (fun _=>rfl) ?_
 repeat' (first|(simp (disch:=first|omega|assumption|exact bd (by with_unfolding_all rfl)|exact Or.inl rfl|exact Or.inl trivial|exact okL_map _ (fun _=>rfl) _|(simp only[VVlen]<;>omega)|fail) only[O1,VV0,VV1,VV2,VV3,VV4,VV5,VV6,VV7,VV8,VV9,mkFnV,vargs,slotsL,opdsA,Nat.reduceEqDiff,Nat.reduceLT,Nat.reduceAdd,Nat.reduceBEq,Int.reduceAdd,Int.reduceSub,Int.reduceLT,Int.reduceLE,Int.reduceEq,Int.reduceNeg,↓reduceIte,reduceCtorEq,scL,scD,expand,List.replicate,rwT])|((first|apply gI_dec|apply gG_dec|apply gPG_dec|apply gI_var|apply gG_var|apply gPG_var)<;>intro _))
 refine g_while (fun m fr st=>∃ k:Nat,m=8 - k∧k≤8∧fr= [(1,.sc (.bool true)),(3,.sc (.int .i64 2)),(5,.sc (.int .i64 2)),(10,.ptr 0 0),(11,.sc (.int .i64 0)),(12,.ref 1 0 8 8),(13,.sc (.int .i64 k))]∧st=⟨[(1,.row 9 1 false false (textsL.map sD)),(0,.box 24 1 [.sc (.int .i64 2),.sc (.int .i64 2),.sl 3 4 ([false,false,false,true].map bD)])],2,0⟩) 8 ?_ ⟨_,_,weak_to [(2,1),(1,0)] 2 h0 rfl rfl rfl rfl,0,rfl,Nat.zero_le _,rfl,rfl⟩ ?_
 ·rw[hrn];unfold many;omega
 rintro m fr st ⟨k,rfl,hk,rfl,rfl⟩
 have htm:(textsL.map sD).length=8:=rfl
 by_cases hlt:k<8
 ·have b1:=all_at texts_bad k (by rw[htl];exact hlt)
  have b2:=all_at texts_len k (by rw[htl];exact hlt)
  rw[decide_eq_true_eq] at b1 b2
  have rd:=parse_p w 4 textsL[k]! (by omega)
  rw[b1] at rd
  generalize hX:textsL[k]! =X at*
  have rd:VSpec (EN w 9) 27 [strV X] (.tup [.agg [.sc (.int .i64 0),.sl 3 0 []],.sc (.int .i64 12)]) ⟨[],0,0⟩:=rd
  repeat' (first|(simp (disch:=first|omega|assumption|exact bd (by with_unfolding_all rfl)|exact Or.inl rfl|exact Or.inl trivial|exact okL_map _ (fun _=>rfl) _|(simp only[VVlen]<;>omega)|fail) only[O1,VV0,VV1,VV2,VV3,VV4,VV5,VV6,VV7,VV8,VV9,mkFnV,vargs,slotsL,opdsA,Nat.reduceEqDiff,Nat.reduceLT,Nat.reduceAdd,Nat.reduceBEq,Int.reduceAdd,Int.reduceSub,Int.reduceLT,Int.reduceLE,Int.reduceEq,Int.reduceNeg,↓reduceIte,reduceCtorEq,scL,scD,expand,List.replicate,c8l0,sD_dv,hX])|((first|apply gI_dec|apply gG_dec|apply gPG_dec|apply gI_var|apply gG_var|apply gPG_var)<;>intro _))
  refine callV_fin (by rw[hC];exact rd) rfl rfl (fun _=>rfl) ?_
  repeat' (first|(simp (disch:=first|omega|assumption|exact bd (by with_unfolding_all rfl)|exact Or.inl rfl|exact Or.inl trivial|exact okL_map _ (fun _=>rfl) _|(simp only[VVlen]<;>omega)|fail) only[O1,VV0,VV1,VV2,VV3,VV4,VV5,VV6,VV7,VV8,VV9,mkFnV,vargs,slotsL,opdsA,Nat.reduceEqDiff,Nat.reduceLT,Nat.reduceAdd,Nat.reduceBEq,Int.reduceAdd,Int.reduceSub,Int.reduceLT,Int.reduceLE,Int.reduceEq,Int.reduceNeg,↓reduceIte,reduceCtorEq,scL,scD,expand,List.replicate])|((first|apply gI_dec|apply gG_dec|apply gPG_dec|apply gI_var|apply gG_var|apply gPG_var)<;>intro _))
  exact ⟨_,_,_,by omega,weak_to [(1,1),(0,0)] 2 h0 rfl rfl rfl rfl,k+1,rfl,hlt,rfl,rfl⟩
 have:k=8:=by omega
 subst this
 have rd:=parse_p w 4 [111,46,10,111,46,10] (by decide)
 rw[text_ok] at rd
 have rd:VSpec (EN w 9) 27 [strV [111,46,10,111,46,10]] (.tup [chainV 3 2 1 [[true,false],[true,false]],.sc (.int .i64 0)]) ⟨[],0,0⟩:=rd
 repeat' (first|(simp (disch:=first|omega|assumption|exact bd (by with_unfolding_all rfl)|exact Or.inl rfl|exact Or.inl trivial|exact okL_map _ (fun _=>rfl) _|(simp only[VVlen]<;>omega)|fail) only[O1,VV0,VV1,VV2,VV3,VV4,VV5,VV6,VV7,VV8,VV9,mkFnV,vargs,slotsL,opdsA,Nat.reduceEqDiff,Nat.reduceLT,Nat.reduceAdd,Nat.reduceBEq,Int.reduceAdd,Int.reduceSub,Int.reduceLT,Int.reduceLE,Int.reduceEq,Int.reduceNeg,↓reduceIte,reduceCtorEq,scL,scD,expand,List.replicate,c8l0])|((first|apply gI_dec|apply gG_dec|apply gPG_dec|apply gI_var|apply gG_var|apply gPG_var)<;>intro _))
 refine callV_fin (by rw[hC];exact rd) rfl rfl (fun _=>rfl) ?_
 repeat' (first|(simp (disch:=first|omega|assumption|exact bd (by with_unfolding_all rfl)|exact Or.inl rfl|exact Or.inl trivial|exact okL_map _ (fun _=>rfl) _|(simp only[VVlen]<;>omega)|fail) only[O1,VV0,VV1,VV2,VV3,VV4,VV5,VV6,VV7,VV8,VV9,mkFnV,vargs,slotsL,opdsA,Nat.reduceEqDiff,Nat.reduceLT,Nat.reduceAdd,Nat.reduceBEq,Int.reduceAdd,Int.reduceSub,Int.reduceLT,Int.reduceLE,Int.reduceEq,Int.reduceNeg,↓reduceIte,reduceCtorEq,scL,scD,expand,List.replicate,rwb2,rwr2])|((first|apply gI_dec|apply gG_dec|apply gPG_dec|apply gI_var|apply gG_var|apply gPG_var)<;>intro _))
 have d1:=decode_p w 3 0 0 1 [[true,true],[true,true]] (by decide) (by decide) (by decide) (by decide) (by decide)
 rw[dv1] at d1
 refine callV_rows2 (by rw[hC];exact d1) (by decide) (by decide) (by decide) rfl rfl rfl rfl ?_
 repeat' (first|(simp (disch:=first|omega|assumption|exact bd (by with_unfolding_all rfl)|exact Or.inl rfl|exact Or.inl trivial|exact okL_map _ (fun _=>rfl) _|(simp only[VVlen]<;>omega)|fail) only[O1,VV0,VV1,VV2,VV3,VV4,VV5,VV6,VV7,VV8,VV9,mkFnV,vargs,slotsL,opdsA,Nat.reduceEqDiff,Nat.reduceLT,Nat.reduceAdd,Nat.reduceBEq,Int.reduceAdd,Int.reduceSub,Int.reduceLT,Int.reduceLE,Int.reduceEq,Int.reduceNeg,↓reduceIte,reduceCtorEq,scL,scD,expand,List.replicate,rwb2,rwr2,rwr1,rwb4,frozA_cons',frozA_nil',elemB_cons',elemB_nil',aset_cons',Obj.froz])|((first|apply gI_dec|apply gG_dec|apply gPG_dec|apply gI_var|apply gG_var|apply gPG_var)<;>intro _))
 have d2:=decode_p w 3 0 0 1 [[true,false],[true,true]] (by decide) (by decide) (by decide) (by decide) (by decide)
 rw[dv2] at d2
 refine callV_rows2 (by rw[hC];exact d2) (by decide) (by decide) (by decide) rfl rfl rfl rfl ?_
 repeat' (first|(simp (disch:=first|omega|assumption|exact bd (by with_unfolding_all rfl)|exact Or.inl rfl|exact Or.inl trivial|exact okL_map _ (fun _=>rfl) _|(simp only[VVlen]<;>omega)|fail) only[O1,VV0,VV1,VV2,VV3,VV4,VV5,VV6,VV7,VV8,VV9,mkFnV,vargs,slotsL,opdsA,Nat.reduceEqDiff,Nat.reduceLT,Nat.reduceAdd,Nat.reduceBEq,Int.reduceAdd,Int.reduceSub,Int.reduceLT,Int.reduceLE,Int.reduceEq,Int.reduceNeg,↓reduceIte,reduceCtorEq,scL,scD,expand,List.replicate,rwb2,rwr2,rwr1,rwb4,frozA_cons',frozA_nil',elemB_cons',elemB_nil',aset_cons',Obj.froz])|((first|apply gI_dec|apply gG_dec|apply gPG_dec|apply gI_var|apply gG_var|apply gPG_var)<;>intro _))
 have d3:=decode_p w 3 0 0 1 [[true,true]] (by decide) (by decide) (by decide) (by decide) (by decide)
 rw[dv3] at d3
 refine callV_rows1 (by rw[hC];exact d3) (by decide) rfl rfl rfl ?_
 repeat' (first|(simp (disch:=first|omega|assumption|exact bd (by with_unfolding_all rfl)|exact Or.inl rfl|exact Or.inl trivial|exact okL_map _ (fun _=>rfl) _|(simp only[VVlen]<;>omega)|fail) only[O1,VV0,VV1,VV2,VV3,VV4,VV5,VV6,VV7,VV8,VV9,mkFnV,vargs,slotsL,opdsA,Nat.reduceEqDiff,Nat.reduceLT,Nat.reduceAdd,Nat.reduceBEq,Int.reduceAdd,Int.reduceSub,Int.reduceLT,Int.reduceLE,Int.reduceEq,Int.reduceNeg,↓reduceIte,reduceCtorEq,scL,scD,expand,List.replicate,rwb2,rwr2,rwr1,rwb4,frozA_cons',frozA_nil',elemB_cons',elemB_nil',aset_cons',Obj.froz])|((first|apply gI_dec|apply gG_dec|apply gPG_dec|apply gI_var|apply gG_var|apply gPG_var)<;>intro _))
 have d4:=decode_p w 3 0 0 2 [[true,true],[true,true]] (by decide) (by decide) (by decide) (by decide) (by decide)
 rw[dv4] at d4
 refine callV_rows2 (by rw[hC];exact d4) (by decide) (by decide) (by decide) rfl rfl rfl rfl ?_
 repeat' (first|(simp (disch:=first|omega|assumption|exact bd (by with_unfolding_all rfl)|exact Or.inl rfl|exact Or.inl trivial|exact okL_map _ (fun _=>rfl) _|(simp only[VVlen]<;>omega)|fail) only[O1,VV0,VV1,VV2,VV3,VV4,VV5,VV6,VV7,VV8,VV9,mkFnV,vargs,slotsL,opdsA,Nat.reduceEqDiff,Nat.reduceLT,Nat.reduceAdd,Nat.reduceBEq,Int.reduceAdd,Int.reduceSub,Int.reduceLT,Int.reduceLE,Int.reduceEq,Int.reduceNeg,↓reduceIte,reduceCtorEq,scL,scD,expand,List.replicate,rwb2,rwr2,rwr1,rwb4,frozA_cons',frozA_nil',elemB_cons',elemB_nil',aset_cons',Obj.froz])|((first|apply gI_dec|apply gG_dec|apply gPG_dec|apply gI_var|apply gG_var|apply gPG_var)<;>intro _))
 have m5:=mendF_p w 3 0 0 1 [[true,false],[true,false]] (by decide) (by decide) (by decide+kernel) (by decide+kernel) (by decide+kernel)
 refine callV_rows2 (by rw[hC];exact m5) (by decide) (by decide) (by decide) rfl rfl rfl rfl ?_
 repeat' (first|(simp (disch:=first|omega|assumption|exact bd (by with_unfolding_all rfl)|exact Or.inl rfl|exact Or.inl trivial|exact okL_map _ (fun _=>rfl) _|(simp only[VVlen]<;>omega)|fail) only[O1,VV0,VV1,VV2,VV3,VV4,VV5,VV6,VV7,VV8,VV9,mkFnV,vargs,slotsL,opdsA,Nat.reduceEqDiff,Nat.reduceLT,Nat.reduceAdd,Nat.reduceBEq,Int.reduceAdd,Int.reduceSub,Int.reduceLT,Int.reduceLE,Int.reduceEq,Int.reduceNeg,↓reduceIte,reduceCtorEq,scL,scD,expand,List.replicate,mendV,rwb2,rwr2,rwr1,rwb4,frozA_cons',frozA_nil',elemB_cons',elemB_nil',aset_cons',Obj.froz])|((first|apply gI_dec|apply gG_dec|apply gPG_dec|apply gI_var|apply gG_var|apply gPG_var)<;>intro _))
 have m6:=VSpec.arg (mendBad_p w 3 3 0 0 [] (by decide) (by decide) (by decide) (by decide) (by decide+kernel)) nil_agg2
 refine callV_flat (by rw[hC];exact m6.flat rfl rfl) ?_
 repeat' (first|(simp (disch:=first|omega|assumption|exact bd (by with_unfolding_all rfl)|exact Or.inl rfl|exact Or.inl trivial|exact okL_map _ (fun _=>rfl) _|(simp only[VVlen]<;>omega)|fail) only[O1,VV0,VV1,VV2,VV3,VV4,VV5,VV6,VV7,VV8,VV9,mkFnV,vargs,slotsL,opdsA,Nat.reduceEqDiff,Nat.reduceLT,Nat.reduceAdd,Nat.reduceBEq,Int.reduceAdd,Int.reduceSub,Int.reduceLT,Int.reduceLE,Int.reduceEq,Int.reduceNeg,↓reduceIte,reduceCtorEq,scL,scD,expand,List.replicate,mendV])|((first|apply gI_dec|apply gG_dec|apply gPG_dec|apply gI_var|apply gG_var|apply gPG_var)<;>intro _))
 have w7:=wrong_p w 4 3 0 41 [] (by decide) (by decide) (by decide) (by decide)
 rw[wv7] at w7
 have w7:=VSpec.arg w7 nil_agg2
 refine callV_fin (by rw[hC];exact w7) rfl rfl (fun _=>rfl) ?_
 repeat' (first|(simp (disch:=first|omega|assumption|exact bd (by with_unfolding_all rfl)|exact Or.inl rfl|exact Or.inl trivial|exact okL_map _ (fun _=>rfl) _|(simp only[VVlen]<;>omega)|fail) only[O1,VV0,VV1,VV2,VV3,VV4,VV5,VV6,VV7,VV8,VV9,mkFnV,vargs,slotsL,opdsA,Nat.reduceEqDiff,Nat.reduceLT,Nat.reduceAdd,Nat.reduceBEq,Int.reduceAdd,Int.reduceSub,Int.reduceLT,Int.reduceLE,Int.reduceEq,Int.reduceNeg,↓reduceIte,reduceCtorEq,scL,scD,expand,List.replicate])|((first|apply gI_dec|apply gG_dec|apply gPG_dec|apply gI_var|apply gG_var|apply gPG_var)<;>intro _))
 have t8:=VSpec.arg (textBad_p w 4 3 0 1 [] (by decide) (by decide) (by decide) (by decide) (by decide+kernel)) nil_agg2
 refine callV_flat (by rw[hC];exact t8.flat rfl rfl) ?_
 repeat' (first|(simp (disch:=first|omega|assumption|exact bd (by with_unfolding_all rfl)|exact Or.inl rfl|exact Or.inl trivial|exact okL_map _ (fun _=>rfl) _|(simp only[VVlen]<;>omega)|fail) only[O1,VV0,VV1,VV2,VV3,VV4,VV5,VV6,VV7,VV8,VV9,mkFnV,vargs,slotsL,opdsA,Nat.reduceEqDiff,Nat.reduceLT,Nat.reduceAdd,Nat.reduceBEq,Int.reduceAdd,Int.reduceSub,Int.reduceLT,Int.reduceLE,Int.reduceEq,Int.reduceNeg,↓reduceIte,reduceCtorEq,scL,scD,expand,List.replicate,rwb4])|((first|apply gI_dec|apply gG_dec|apply gPG_dec|apply gI_var|apply gG_var|apply gPG_var)<;>intro _))
 refine callV_flat (by rw[hC];exact alive_o w 8 _) ?_
 repeat' (first|(simp (disch:=first|omega|assumption|exact bd (by with_unfolding_all rfl)|exact Or.inl rfl|exact Or.inl trivial|exact okL_map _ (fun _=>rfl) _|(simp only[VVlen]<;>omega)|fail) only[O1,VV0,VV1,VV2,VV3,VV4,VV5,VV6,VV7,VV8,VV9,mkFnV,vargs,slotsL,opdsA,Nat.reduceEqDiff,Nat.reduceLT,Nat.reduceAdd,Nat.reduceBEq,Int.reduceAdd,Int.reduceSub,Int.reduceLT,Int.reduceLE,Int.reduceEq,Int.reduceNeg,↓reduceIte,reduceCtorEq,scL,scD,expand,List.replicate,rwb4])|((first|apply gI_dec|apply gG_dec|apply gPG_dec|apply gI_var|apply gG_var|apply gPG_var)<;>intro _))
 have sA:=same01_p w 8 3 0 2 2 [false,false,false,true] (by decide)
 have sB:=same01_p w 8 3 0 1 1 [true] (by decide)
 refine callV_flat (by rw[hC];exact sA.flat rfl rfl) ?_
 repeat' (first|(simp (disch:=first|omega|assumption|exact bd (by with_unfolding_all rfl)|exact Or.inl rfl|exact Or.inl trivial|exact okL_map _ (fun _=>rfl) _|(simp only[VVlen]<;>omega)|fail) only[O1,VV0,VV1,VV2,VV3,VV4,VV5,VV6,VV7,VV8,VV9,mkFnV,vargs,slotsL,opdsA,Nat.reduceEqDiff,Nat.reduceLT,Nat.reduceAdd,Nat.reduceBEq,Int.reduceAdd,Int.reduceSub,Int.reduceLT,Int.reduceLE,Int.reduceEq,Int.reduceNeg,↓reduceIte,reduceCtorEq,scL,scD,expand,List.replicate,rwb4])|((first|apply gI_dec|apply gG_dec|apply gPG_dec|apply gI_var|apply gG_var|apply gPG_var)<;>intro _))
 refine callV_flat (by rw[hC];exact sB.flat rfl rfl) ?_
 repeat' (first|(simp (disch:=first|omega|assumption|exact bd (by with_unfolding_all rfl)|exact Or.inl rfl|exact Or.inl trivial|exact okL_map _ (fun _=>rfl) _|(simp only[VVlen]<;>omega)|fail) only[O1,VV0,VV1,VV2,VV3,VV4,VV5,VV6,VV7,VV8,VV9,mkFnV,vargs,slotsL,opdsA,Nat.reduceEqDiff,Nat.reduceLT,Nat.reduceAdd,Nat.reduceBEq,Int.reduceAdd,Int.reduceSub,Int.reduceLT,Int.reduceLE,Int.reduceEq,Int.reduceNeg,↓reduceIte,reduceCtorEq,scL,scD,expand,List.replicate,rwb4])|((first|apply gI_dec|apply gG_dec|apply gPG_dec|apply gI_var|apply gG_var|apply gPG_var)<;>intro _))
 exact weak_flat rfl h0 rfl
end Go.Proofs.YtepdkmdcainddaaDoor
namespace Go.Proofs.YtepdkmdcainddaaDoor
open Go Go.Itp
open Go.ChangeShapes Go.WideShapes Go.ChangeAt Go.RowKit
set_option linter.unusedVariables false
set_option maxRecDepth 100000
set_option maxHeartbeats 4000000
theorem reach_lt:reachBytes≤140737488351232:=by decide
def listed:List (String × DataW Unit):= [("math/bits.deBruijn32tab",Rows.laid_math_bits_deBruijn32tab),("math/bits.deBruijn64tab",Rows.laid_math_bits_deBruijn64tab),("internal/strconv.uint64pow10",Rows.laid_internal_strconv_uint64pow10),("unicode/utf8.acceptRanges",Rows.laid_unicode_utf8_acceptRanges),("strconv.ErrRange",Rows.laid_strconv_ErrRange),("strconv.ErrSyntax",Rows.laid_strconv_ErrSyntax),("unicode/utf8.first",Rows.laid_unicode_utf8_first)]
theorem listed_met (os:Os) (args:Array Value):laidMetH Tryd.prog listed ((World.laidAll Tryd.prog os listed).forCall (fun _ _=>0) ⟨#[],args,[]⟩).memory:=by
 rw[MakeChecks.laidMetH_plain _ _ _ (by kernel_rfl)]
 exact laidMet_laidAll _ (by kernel_rfl) (by kernel_rfl)
theorem listed_shaped (os:Os):(World.laidAll Tryd.prog os listed).Shaped Tryd.prog:=World.shaped_of_ZipB (by kernel_rfl) (by kernel_rfl)
theorem stand_ins {l:List TypeId} {t:TypeId} (hall:(l.all fun u=> !Tryd.prog.wantsStandIn u)=true) (h:t ∈ l):Tryd.prog.wantsStandIn t=false:=by
 have:=List.all_eq_true.1 hall t h
 simpa using this
theorem names_lifted (os:Os) (started:os.Started) (H:Type) (enc:TypeId × Value→H):
  ReturnsInHanded {} Tryd.checked os 8 .any (fun w args=>(Rows.pegNamesSpec.pre enc Tryd.prog Tryd.f8 [] false w args∧laidMetH Tryd.prog listed w)∧sizedMet enc Tryd.prog Tryd.f8 (OpenSpec.ofChange Rows.pegNamesSpec) false w args)
   (Rows.pegNamesSpec.post enc Tryd.prog Tryd.f8 false true false false):=by
 refine returnsInHanded_of_change_and (C:=Tryd.checked) (X:=fun w _=>laidMetH Tryd.prog listed w) (fun _ _ _ hh h=>h.of_heap hh) own started (by kernel_rfl) Tryd.func8
  (ChangeSpec.witness_shaped (enc:=enc) (C:=Tryd.checked) (os:=os) (X:=fun w _=>laidMetH Tryd.prog listed w) false (World.laidAll Tryd.prog os listed) #[] 8 (World.laidAll_os _ _ _) (listed_shaped os) (by kernel_rfl) (by kernel_rfl) (by kernel_rfl) (listed_met os _)) ?_
 intro W base args ds gs before hval0 hW _ hsz0 hL _
 have hval:∀ (j:Nat) t v,Tryd.f8.params[j]? =some t→args[j]? =some v→Value.okWide Tryd.prog W .any base t v:=hval0
 have hW':=hW
 obtain ⟨p,q,hA0,hV,rfl,hfz,hnd⟩:=hW
 have hA:DataW.TrodAll enc Tryd.prog W 0 (fun _=>true) true Tryd.f8.params.toList args.toList ds p:=hA0
 have hsz:(DataW.weightsEach Tryd.prog (Tryd.f8.params.toList++Rows.pegNamesSpec.plain.varTypes Tryd.prog) (ds++gs)).all (· ≤reachBytes)=true:=hsz0
 rw[Tryd.params8] at hA hval hsz
 obtain ⟨hargs,rfl,rfl⟩:=trodAll_nil hA
 obtain rfl:args=#[]:=by cases args;simp_all
 have hr:=reach_lt
 have hLm:laidMet Tryd.prog listed W:=by rw[← MakeChecks.laidMetH_plain _ _ _ (by kernel_rfl)];exact hL
 have htab:Tab W:=laid_tab hLm 2 rfl (g:=2) (t:=136) (e:=119) (k:= .u64) (m:=20) (by kernel_rfl) (by kernel_rfl) Tryd.underlying136 Tryd.underlying119 (by kernel_rfl) (by kernel_rfl) rfl
 have hesy:(errO Tryd.prog W "strconv.ErrSyntax").isSome=true:=laid_errO hLm 5 rfl (g:=0) (t:=72) (by kernel_rfl) (by kernel_rfl) Tryd.underlying72
 have herr:(errO Tryd.prog W "strconv.ErrRange").isSome=true:=laid_errO hLm 4 rfl (g:=1) (t:=72) (by kernel_rfl) (by kernel_rfl) Tryd.underlying72
 obtain ⟨s',hbody⟩:=law_v (old:=oldOf W) (rounds:=many) (fns:=fns) (prims:=PR W) (n:=9) (af:=c8) (xs:= []) (xsI:= []) (x:= .bool true) (Nat.le_of_ble_eq_true rfl)
  (by simp only[VRepL]) fun C hC hn=>names_g W hesy herr hC hn
 have hfn:fns 8=some c8:=rfl
 have hrv:ids 0 (.bool true)= []:=rfl
 refine (law_of htab (f:=8) (af:=c8) hfn (xs:= []) rfl _ hbody hrv).mono fun e W' ⟨he,hbe⟩=>?_
 exact ⟨_,he,law_post hW' rfl rfl (by kernel_rfl) (by kernel_rfl) Tryd.underlying4 hbe⟩
theorem names_over:Rows.PegNamesSaid:=
 OpenClaim.holds_of_wide 8 Tryd.f8 rfl rfl rfl rfl rfl rfl rfl ⟨rfl,rfl,rfl,rfl,rfl⟩ rfl rfl rfl rfl rfl (by kernel_rfl) Tryd.func8 (by kernel_rfl)
  (of_decide_eq_true (by kernel_rfl)) (by unfold Func.isWrapper;first|(rw[if_pos (by decide+kernel)];kernel_rfl)|(rw[if_neg (by decide+kernel)];exact ⟨rfl,rfl⟩))
  (fun os started H enc _=>names_lifted os started H enc)
theorem names_holds:Rows.PegNamesCardSaid:=
 Claim7.holds_tied_plain_at .later [] [.data,.data,.data,.data,.sentinel,.sentinel,.pinned] true _ true
  names_over (fun _ h=>by cases h) (by kernel_rfl) (fun _ h=>by cases h) pegNames_row_tie rfl ⟨rfl,rfl⟩ (by kernel_rfl) rfl
  (fun f fn hf hfn=>by
   obtain rfl:f=8:=Option.some.inj ((show Tryd.prog.funcNamed "raddle/raddlelaw18.PegNames"=some 8 by kernel_rfl).symm.trans hf)|>.symm
   obtain rfl:fn=Tryd.f8:=(Option.some.inj (Tryd.func8.symm.trans hfn)).symm
   exact ⟨by kernel_rfl,fun j t ht=>stand_ins (l:= []) (by kernel_rfl) (by rw[Tryd.params8] at ht;simpa using Array.mem_of_getElem? ht)⟩)
  (by kernel_rfl)
#print axioms names_holds
end Go.Proofs.YtepdkmdcainddaaDoor
