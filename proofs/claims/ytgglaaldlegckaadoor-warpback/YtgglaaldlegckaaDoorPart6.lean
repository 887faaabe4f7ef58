/- What is proved: the law WarpBack returns true for every input. Conditions: none beyond the card's own.
   Texts: O22h, O22i, O22j, O22k, O22l, E22b, E22c, E22d, E22e, E22f, E22g, E22h, E22i, E22j, E22l, E22m.
-/
import Derived.Test.YtgglaaldlegckaaDoorPart5
import Derived.Lib.ItoaLen
import Derived.Test.YtgglaaldlegckaaDoorCards
import Derived.Test.YtgglaaldlegckaaDoorTie
import Derived.SizedLaws
import Derived.ChangeAt
import Derived.SevenTiedAt
import Derived.Stop.Joined
import Derived.Lay
namespace Go.Proofs.YtgglaaldlegckaaDoor
open Go Go.Itp
set_option maxRecDepth 100000
set_option maxHeartbeats 1000000
set_option linter.unusedSimpArgs false
section
variable (w:World) (n:Nat)
def selfP (b:Nat) (p:V):Prop:=p= .sc (.pointer none)∨p= .ptr b 0
theorem copyCheck_w {C:Ctx} {st:VSt} {Q:V→VSt→Prop} (hC:C.E=EN w (n+2)) (b e:Nat) (p g:V) (hb:aget st.own b=some (.box 66 e [p,g])) (hp:selfP b p) (hro:st.ro≤b)
  (hq:Q (.tup []) ⟨aset st.own b (.box 66 e [.ptr b 0,g]),st.next,st.ro⟩):CallV C 53 [.ptr b 0] st Q:=by
 refine callV_w hC rfl rfl (fun _ _=>rfl) (Nat.le_of_ble_eq_true rfl) hq fun C' hC' hn=>?_
 obtain ⟨H,nx,ro⟩:=st
 have h2:(2:Nat)≤ [p,g].length:=Nat.le_refl _
 rcases hp with rfl|rfl
 ·repeat' (first|(simp (disch:=first|omega|assumption|(refine @id ((_:Bool)=_) ?_;exact id (by with_unfolding_all rfl))|(exact Or.inl rfl)|(exact Or.inl trivial)|(exact okL_map _ (fun _=>rfl) _)|(simp only[VVlen]<;>omega)|fail) only[VV0,VV1,VV2,VV3,VV4,VV5,VV6,VV7,VV8,VV9,mkFnV,vargs,slotsL,opdsA,Nat.reduceEqDiff,Nat.reduceLT,Nat.reduceAdd,Nat.reduceBEq,Int.reduceAdd,Int.reduceSub,Int.reduceLT,Int.reduceLE,Int.reduceEq,Int.reduceNeg,↓reduceIte,reduceCtorEq,scL,scD,expand,List.replicate,c53,hb,eqNilP_ptr,eqNilP_nil])|(refine gC_drawW ?_)|(refine gI_dec (fun _=>?_) (fun _=>?_))|(refine gG_dec (fun _=>?_) (fun _=>?_))|(refine gPG_dec (fun _=>?_) (fun _=>?_))|(refine gI_var (fun _=>?_) (fun _=>?_))|(refine gG_var (fun _=>?_) (fun _=>?_))|(refine gPG_var (fun _=>?_) (fun _=>?_)))
  refine callV_same hC' (fun x s=>?_) ?_
  ·show PR w _ [x] s=some (x,[])
   rfl
  repeat' (first|(simp (disch:=first|omega|assumption|(refine @id ((_:Bool)=_) ?_;exact id (by with_unfolding_all rfl))|(exact Or.inl rfl)|(exact Or.inl trivial)|(exact okL_map _ (fun _=>rfl) _)|(simp only[VVlen]<;>omega)|fail) only[VV0,VV1,VV2,VV3,VV4,VV5,VV6,VV7,VV8,VV9,mkFnV,vargs,slotsL,opdsA,Nat.reduceEqDiff,Nat.reduceLT,Nat.reduceAdd,Nat.reduceBEq,Int.reduceAdd,Int.reduceSub,Int.reduceLT,Int.reduceLE,Int.reduceEq,Int.reduceNeg,↓reduceIte,reduceCtorEq,scL,scD,expand,List.replicate,hb,eqNilP_ptr])|(refine gC_drawW ?_)|(refine gI_dec (fun _=>?_) (fun _=>?_))|(refine gG_dec (fun _=>?_) (fun _=>?_))|(refine gPG_dec (fun _=>?_) (fun _=>?_))|(refine gI_var (fun _=>?_) (fun _=>?_))|(refine gG_var (fun _=>?_) (fun _=>?_))|(refine gPG_var (fun _=>?_) (fun _=>?_)))
  exact .refl _ _
 ·have hs:aset H b (.box 66 e [.ptr b 0,g])=H:=aset_self _ _ _ hb
  repeat' (first|(simp (disch:=first|omega|assumption|(refine @id ((_:Bool)=_) ?_;exact id (by with_unfolding_all rfl))|(exact Or.inl rfl)|(exact Or.inl trivial)|(exact okL_map _ (fun _=>rfl) _)|(simp only[VVlen]<;>omega)|fail) only[VV0,VV1,VV2,VV3,VV4,VV5,VV6,VV7,VV8,VV9,mkFnV,vargs,slotsL,opdsA,Nat.reduceEqDiff,Nat.reduceLT,Nat.reduceAdd,Nat.reduceBEq,Int.reduceAdd,Int.reduceSub,Int.reduceLT,Int.reduceLE,Int.reduceEq,Int.reduceNeg,↓reduceIte,reduceCtorEq,scL,scD,expand,List.replicate,c53,hb,eqPtrV_same,eqNilP_ptr,eqNilP_nil])|(refine gC_drawW ?_)|(refine gI_dec (fun _=>?_) (fun _=>?_))|(refine gG_dec (fun _=>?_) (fun _=>?_))|(refine gPG_dec (fun _=>?_) (fun _=>?_))|(refine gI_var (fun _=>?_) (fun _=>?_))|(refine gG_var (fun _=>?_) (fun _=>?_))|(refine gPG_var (fun _=>?_) (fun _=>?_)))
  rw[hs]
  exact .refl _ _
theorem writeString_w {C:Ctx} {st:VSt} {Q:V→VSt→Prop} (hC:C.E=EN w (n+3)) (b r:Nat) (p:V) (acc s:ByteArray) (hb:aget st.own b=some (.box 66 1 [p,.gr 2 r acc.size])) (hr:aget st.own r=some (.gro 5 1 false (strD acc))) (hp:selfP b p) (hro:st.ro≤b) (hro2:st.ro≤r) (hrb:r ≠ b) (hlt:b ≠ st.next)
  (hsz:acc.size+s.size≤1099511627776) (hq:Q (.tup [.sc (.int .i64 s.size),.sc .nilIface]) ⟨(st.next,.gro 5 1 false (strD (acc++s)))::aset (adel r st.own) b (.box 66 1 [.ptr b 0,.gr 2 st.next (acc.size+s.size)]),st.next+1,st.ro⟩):
  CallV C 34 [.ptr b 0,.sc (.string s)] st Q:=by
 refine callV_w hC rfl rfl (fun _ _=>rfl) (Nat.le_of_ble_eq_true rfl) hq fun C' hC' hn=>?_
 obtain ⟨H,nx,ro⟩:=st
 have h1:=strD_len acc
 have h2:=strD_ok s
 have a1:aget (aset H b (.box 66 1 [.ptr b 0,.gr 2 r acc.size])) b=some (.box 66 1 [.ptr b 0,.gr 2 r acc.size]):=aget_aset_eq hb
 have a2:aget (aset H b (.box 66 1 [.ptr b 0,.gr 2 r acc.size])) r=some (.gro 5 1 false (strD acc)):=by rw[aget_aset _ _ _ _ _ hb,if_neg hrb];exact hr
 have hbr:¬ b=r:=fun e=>hrb e.symm
 have a3:aget (adel r (aset H b (.box 66 1 [.ptr b 0,.gr 2 r acc.size]))) b=some (.box 66 1 [.ptr b 0,.gr 2 r acc.size]):=by rw[aget_adel,if_neg hbr];exact a1
 repeat' (first|(simp (disch:=first|omega|assumption|(refine @id ((_:Bool)=_) ?_;exact id (by with_unfolding_all rfl))|(exact Or.inl rfl)|(exact Or.inl trivial)|(exact okL_map _ (fun _=>rfl) _)|(simp only[VVlen]<;>omega)|fail) only[VV0,VV1,VV2,VV3,VV4,VV5,VV6,VV7,VV8,VV9,mkFnV,vargs,slotsL,opdsA,Nat.reduceEqDiff,Nat.reduceLT,Nat.reduceAdd,Nat.reduceBEq,Int.reduceAdd,Int.reduceSub,Int.reduceLT,Int.reduceLE,Int.reduceEq,Int.reduceNeg,↓reduceIte,reduceCtorEq,scL,scD,expand,List.replicate,c34])|(refine gC_drawW ?_)|(refine gI_dec (fun _=>?_) (fun _=>?_))|(refine gG_dec (fun _=>?_) (fun _=>?_))|(refine gPG_dec (fun _=>?_) (fun _=>?_))|(refine gI_var (fun _=>?_) (fun _=>?_))|(refine gG_var (fun _=>?_) (fun _=>?_))|(refine gPG_var (fun _=>?_) (fun _=>?_)))
 refine copyCheck_w w n hC' b 1 p _ hb hp hro ?_
 repeat' (first|(simp (disch:=first|omega|assumption|(refine @id ((_:Bool)=_) ?_;exact id (by with_unfolding_all rfl))|(exact Or.inl rfl)|(exact Or.inl trivial)|(exact okL_map _ (fun _=>rfl) _)|(simp only[VVlen]<;>omega)|fail) only[VV0,VV1,VV2,VV3,VV4,VV5,VV6,VV7,VV8,VV9,mkFnV,vargs,slotsL,opdsA,Nat.reduceEqDiff,Nat.reduceLT,Nat.reduceAdd,Nat.reduceBEq,Int.reduceAdd,Int.reduceSub,Int.reduceLT,Int.reduceLE,Int.reduceEq,Int.reduceNeg,↓reduceIte,reduceCtorEq,scL,scD,expand,List.replicate,a1,a2,a3,srcOf_str,strD_eq,hbr,hlt,strD_append,frozA_none])|(refine gC_drawW ?_)|(refine gI_dec (fun _=>?_) (fun _=>?_))|(refine gG_dec (fun _=>?_) (fun _=>?_))|(refine gPG_dec (fun _=>?_) (fun _=>?_))|(refine gI_var (fun _=>?_) (fun _=>?_))|(refine gG_var (fun _=>?_) (fun _=>?_))|(refine gPG_var (fun _=>?_) (fun _=>?_)))
 rw[adel_aset _ _ _ _ hrb,aset_aset]
 exact .refl _ _
theorem string_w {C:Ctx} {st:VSt} {Q:V→VSt→Prop} (hC:C.E=EN w (n+1)) (b r:Nat) (p:V) (acc:ByteArray) (hb:aget st.own b=some (.box 66 1 [p,.gr 2 r acc.size])) (hr:aget st.own r=some (.gro 5 1 false (strD acc))) (hro:st.ro≤b) (hro2:st.ro≤r)
  (hsz:acc.size≤1099511627776) (hq:∀ st',st'.ro=st.ro→Q (.sc (.string acc)) st'):CallV C 37 [.ptr b 0] st Q:=by
 obtain ⟨H,nx,ro⟩:=st
 by_cases h0:acc.size=0
 ·rw[h0] at hb
  have hs:acc=ByteArray.empty:=by
   apply ByteArray.ext;apply Array.ext'
   rw[List.eq_nil_of_length_eq_zero (show acc.data.toList.length=0 by simpa using h0)]
   rfl
  refine callV_wW (st':=⟨aset H b (.box 66 1 [p,.sc (.slice none 0 0)]),nx,ro⟩) hC rfl rfl (fun _ _=>rfl) (Nat.le_of_ble_eq_true rfl) (hq ⟨aset H b (.box 66 1 [p,.sc (.slice none 0 0)]),nx,ro⟩ rfl) (fun C' hn=>?_) fun C' hC' hn=>?_
  ·exact weak_cell (C:=C') (st:=⟨H,nx,ro⟩) (k:=1) hb rfl same_gr0
  have a1:aget (aset H b (.box 66 1 [p,.sc (.slice none 0 0)])) b=some (.box 66 1 [p,.sc (.slice none 0 0)]):=aget_aset_eq hb
  rw[hs]
  repeat' (first|(simp (disch:=first|omega|assumption|(refine @id ((_:Bool)=_) ?_;exact id (by with_unfolding_all rfl))|(exact Or.inl rfl)|(exact Or.inl trivial)|(exact okL_map _ (fun _=>rfl) _)|(simp only[VVlen]<;>omega)|fail) only[VV0,VV1,VV2,VV3,VV4,VV5,VV6,VV7,VV8,VV9,mkFnV,vargs,slotsL,opdsA,Nat.reduceEqDiff,Nat.reduceLT,Nat.reduceAdd,Nat.reduceBEq,Int.reduceAdd,Int.reduceSub,Int.reduceLT,Int.reduceLE,Int.reduceEq,Int.reduceNeg,↓reduceIte,reduceCtorEq,scL,scD,expand,List.replicate,c37,a1,vustr_nil])|(refine gC_drawW ?_)|(refine gI_dec (fun _=>?_) (fun _=>?_))|(refine gG_dec (fun _=>?_) (fun _=>?_))|(refine gPG_dec (fun _=>?_) (fun _=>?_))|(refine gI_var (fun _=>?_) (fun _=>?_))|(refine gG_var (fun _=>?_) (fun _=>?_))|(refine gPG_var (fun _=>?_) (fun _=>?_)))
  exact .refl _ _
 ·refine callV_w hC rfl rfl (fun _ _=>rfl) (Nat.le_of_ble_eq_true rfl) (hq ⟨adel r H,nx,ro⟩ rfl) fun C' hC' hn=>?_
  have hv:=vustr_gro ⟨H,nx,ro⟩ 5 1 r acc hr hro2 (by omega) hsz
  repeat' (first|(simp (disch:=first|omega|assumption|(refine @id ((_:Bool)=_) ?_;exact id (by with_unfolding_all rfl))|(exact Or.inl rfl)|(exact Or.inl trivial)|(exact okL_map _ (fun _=>rfl) _)|(simp only[VVlen]<;>omega)|fail) only[VV0,VV1,VV2,VV3,VV4,VV5,VV6,VV7,VV8,VV9,mkFnV,vargs,slotsL,opdsA,Nat.reduceEqDiff,Nat.reduceLT,Nat.reduceAdd,Nat.reduceBEq,Int.reduceAdd,Int.reduceSub,Int.reduceLT,Int.reduceLE,Int.reduceEq,Int.reduceNeg,↓reduceIte,reduceCtorEq,scL,scD,expand,List.replicate,c37,hb,h0,hv])|(refine gC_drawW ?_)|(refine gI_dec (fun _=>?_) (fun _=>?_))|(refine gG_dec (fun _=>?_) (fun _=>?_))|(refine gPG_dec (fun _=>?_) (fun _=>?_))|(refine gI_var (fun _=>?_) (fun _=>?_))|(refine gG_var (fun _=>?_) (fun _=>?_))|(refine gPG_var (fun _=>?_) (fun _=>?_)))
  exact .refl _ _
end
end Go.Proofs.YtgglaaldlegckaaDoor
namespace Go.Proofs.YtgglaaldlegckaaDoor
open Go Go.Itp
set_option maxRecDepth 100000
set_option maxHeartbeats 1000000
set_option linter.unusedSimpArgs false
abbrev strV (l:List UInt8):V:= .sc (.string ⟨l.toArray⟩)
section
variable (w:World) (n:Nat)
end
end Go.Proofs.YtgglaaldlegckaaDoor
namespace Go.Proofs.YtgglaaldlegckaaDoor
open Go Go.Itp
set_option maxRecDepth 100000
set_option maxHeartbeats 1000000
set_option linter.unusedSimpArgs false
def txt1 (p:Int × Int):List UInt8:=Lib.itoa p.1++(120::Lib.itoa p.2)
def txt (R:List (Int × Int)):List UInt8:=R.foldl (fun acc p=>(if acc= [] then [] else acc++ [32])++txt1 p) []
theorem txt_snoc (R:List (Int × Int)) (p:Int × Int):txt (R++ [p])=(if txt R= [] then [] else txt R++ [32])++txt1 p:=by
 unfold txt
 rw[List.foldl_append]
 rfl
theorem txt1_ne (p:Int × Int):txt1 p ≠ []:=by simp[txt1]
theorem txt_nil_iff (R:List (Int × Int)):txt R= []↔R= []:=by
 constructor
 ·intro h
  by_cases hR:R= []
  ·exact hR
  ·obtain ⟨Q,p,rfl⟩:∃ Q p,R=Q++ [p]:=⟨R.dropLast,R.getLast hR,(List.dropLast_concat_getLast hR).symm⟩
   rw[txt_snoc] at h
   exact absurd (List.append_eq_nil_iff.1 h).2 (txt1_ne p)
 ·rintro rfl;rfl
theorem chk_facts {l:List Int} (h:chk l=0):l.length≤4000∧∀ k,k<l.length→0≤l[k]! ∧l[k]! ≤15:=by
 unfold chk at h
 split at h
 ·cases h
 ·rename_i h4
  split at h
  ·rename_i ha
   refine ⟨by omega,fun k hk=>?_⟩
   have:=List.all_eq_true.1 ha l[k]! (by rw[getElem!_pos l k hk];exact List.getElem_mem hk)
   simpa [col] using this
  ·cases h
theorem runsP_col (l:List Int):∀ k,∀ p ∈ runsP l k,∃ j,j<k∧p.2=l[j]!
 |0,p,h=>by simp[runsP] at h
 |k+1,p,h=>by
  have ih:=runsP_col l k
  rw[runsP] at h
  split at h
  ·rename_i hc
   obtain ⟨Q,q,h1,h2⟩:=incLast_ne (runsP_ne l hc.1)
   rw[h2] at h
   rw[h1] at ih
   rcases List.mem_append.1 h with h|h
   ·obtain ⟨j,a,b⟩:=ih p (List.mem_append.2 (.inl h));exact ⟨j,by omega,b⟩
   ·simp at h;subst h
    obtain ⟨j,a,b⟩:=ih q (by simp);exact ⟨j,by omega,b⟩
  ·rcases List.mem_append.1 h with h|h
   ·obtain ⟨j,a,b⟩:=ih p h;exact ⟨j,by omega,b⟩
   ·obtain rfl:=List.mem_singleton.1 h;exact ⟨k,by omega,rfl⟩
theorem txt_len:∀ (R:List (Int × Int)),(∀ p ∈ R,(0≤p.1∧p.1≤5000)∧0≤p.2∧p.2≤5000)→(txt R).length≤50*R.length:=by
 intro R
 induction h:R.length generalizing R with
 |zero=>intro _;rw[List.eq_nil_of_length_eq_zero h];exact Nat.le_refl _
 |succ m ih=>
  intro hR
  have hne:R ≠ []:=by rintro rfl;simp at h
  obtain ⟨Q,p,rfl⟩:∃ Q p,R=Q++ [p]:=⟨R.dropLast,R.getLast hne,(List.dropLast_concat_getLast hne).symm⟩
  have:=ih Q (by simpa using h) fun q hq=>hR q (List.mem_append.2 (.inl hq))
  obtain ⟨⟨a1,a2⟩,a3,a4⟩:=hR p (by simp)
  have k1:=Lib.itoa_length_le p.1 (by omega) (by omega)
  have k2:=Lib.itoa_length_le p.2 (by omega) (by omega)
  rw[txt_snoc]
  split
  ·simp[txt1];omega
  ·simp[txt1];omega
def textF (l:List Int):List UInt8 × Int:=if chk l=0 then (txt (runsP l l.length),0) else ([],chk l)
section
variable (w:World) (n:Nat)
theorem len_o (st:VSt) (b r:Nat) (p:V) (acc:ByteArray) (hb:aget st.own b=some (.box 66 1 [p,.gr 2 r acc.size])):VSpecO (EN w (n+1)) 35 st [.ptr b 0] (.sc (.int .i64 acc.size)):=by
 obtain ⟨H,nx,ro⟩:=st
 refine vspecO_g rfl rfl (fun _ _=>rfl) (Nat.le_of_ble_eq_true rfl) rfl fun C hC hn=>⟨⟨H,nx,nx⟩,?_⟩
 repeat' (first|(simp (disch:=first|omega|assumption|(refine @id ((_:Bool)=_) ?_;exact id (by with_unfolding_all rfl))|(exact Or.inl rfl)|(exact Or.inl trivial)|(exact okL_map _ (fun _=>rfl) _)|(simp only[VVlen]<;>omega)|fail) only[VV0,VV1,VV2,VV3,VV4,VV5,VV6,VV7,VV8,VV9,mkFnV,vargs,slotsL,opdsA,Nat.reduceEqDiff,Nat.reduceLT,Nat.reduceAdd,Nat.reduceBEq,Int.reduceAdd,Int.reduceSub,Int.reduceLT,Int.reduceLE,Int.reduceEq,Int.reduceNeg,↓reduceIte,reduceCtorEq,scL,scD,expand,List.replicate,c35,hb])|(refine gC_drawW ?_)|(refine gI_dec (fun _=>?_) (fun _=>?_))|(refine gG_dec (fun _=>?_) (fun _=>?_))|(refine gPG_dec (fun _=>?_) (fun _=>?_))|(refine gI_var (fun _=>?_) (fun _=>?_))|(refine gG_var (fun _=>?_) (fun _=>?_))|(refine gPG_var (fun _=>?_) (fun _=>?_)))
 exact .refl _ _
theorem text_p (s:Nat) (hs:s ≠ 1) (l:List Int) (hl:l.length≤140737488351232):VSpec (EN w (n+7)) 12 [.sl s l.length (l.map iD)] (.tup [strV (textF l).1,.sc (.int .i64 (textF l).2)]) ⟨[],0,0⟩:=by
 refine vspec_flat rfl rfl (fun _ _=>rfl) (Nat.le_of_ble_eq_true rfl) (oldVals w) rfl fun C hC hn=>?_
 repeat' (first|(simp (disch:=first|omega|assumption|(refine @id ((_:Bool)=_) ?_;exact id (by with_unfolding_all rfl))|(exact Or.inl rfl)|(exact Or.inl trivial)|(exact okL_map _ (fun _=>rfl) _)|(simp only[VVlen]<;>omega)|fail) only[VV0,VV1,VV2,VV3,VV4,VV5,VV6,VV7,VV8,VV9,mkFnV,vargs,slotsL,opdsA,Nat.reduceEqDiff,Nat.reduceLT,Nat.reduceAdd,Nat.reduceBEq,Int.reduceAdd,Int.reduceSub,Int.reduceLT,Int.reduceLE,Int.reduceEq,Int.reduceNeg,↓reduceIte,reduceCtorEq,scL,scD,expand,List.replicate,c12])|(refine gC_drawW ?_)|(refine gI_dec (fun _=>?_) (fun _=>?_))|(refine gG_dec (fun _=>?_) (fun _=>?_))|(refine gPG_dec (fun _=>?_) (fun _=>?_))|(refine gI_var (fun _=>?_) (fun _=>?_))|(refine gG_var (fun _=>?_) (fun _=>?_))|(refine gPG_var (fun _=>?_) (fun _=>?_)))
 refine callV_flat ((check_p w (n+1) s l hl).of hC rfl _ rfl) ?_
 by_cases h0:chk l=0
 case neg=>
  have e:textF l=([],chk l):=if_neg h0
  rw[e]
  repeat' (first|(simp (disch:=first|omega|assumption|(refine @id ((_:Bool)=_) ?_;exact id (by with_unfolding_all rfl))|(exact Or.inl rfl)|(exact Or.inl trivial)|(exact okL_map _ (fun _=>rfl) _)|(simp only[VVlen]<;>omega)|fail) only[VV0,VV1,VV2,VV3,VV4,VV5,VV6,VV7,VV8,VV9,mkFnV,vargs,slotsL,opdsA,Nat.reduceEqDiff,Nat.reduceLT,Nat.reduceAdd,Nat.reduceBEq,Int.reduceAdd,Int.reduceSub,Int.reduceLT,Int.reduceLE,Int.reduceEq,Int.reduceNeg,↓reduceIte,reduceCtorEq,scL,scD,expand,List.replicate])|(refine gC_drawW ?_)|(refine gI_dec (fun _=>?_) (fun _=>?_))|(refine gG_dec (fun _=>?_) (fun _=>?_))|(refine gPG_dec (fun _=>?_) (fun _=>?_))|(refine gI_var (fun _=>?_) (fun _=>?_))|(refine gG_var (fun _=>?_) (fun _=>?_))|(refine gPG_var (fun _=>?_) (fun _=>?_)))
  all_goals try (exfalso;omega)
  exact weak_flat rfl hn rfl
 obtain ⟨hl4,hcol⟩:=chk_facts h0
 have e:textF l=(txt (runsP l l.length),0):=if_pos h0
 rw[e,h0]
 repeat' (first|(simp (disch:=first|omega|assumption|(refine @id ((_:Bool)=_) ?_;exact id (by with_unfolding_all rfl))|(exact Or.inl rfl)|(exact Or.inl trivial)|(exact okL_map _ (fun _=>rfl) _)|(simp only[VVlen]<;>omega)|fail) only[VV0,VV1,VV2,VV3,VV4,VV5,VV6,VV7,VV8,VV9,mkFnV,vargs,slotsL,opdsA,Nat.reduceEqDiff,Nat.reduceLT,Nat.reduceAdd,Nat.reduceBEq,Int.reduceAdd,Int.reduceSub,Int.reduceLT,Int.reduceLE,Int.reduceEq,Int.reduceNeg,↓reduceIte,reduceCtorEq,scL,scD,expand,List.replicate])|(refine gC_drawW ?_)|(refine gI_dec (fun _=>?_) (fun _=>?_))|(refine gG_dec (fun _=>?_) (fun _=>?_))|(refine gPG_dec (fun _=>?_) (fun _=>?_))|(refine gI_var (fun _=>?_) (fun _=>?_))|(refine gG_var (fun _=>?_) (fun _=>?_))|(refine gPG_var (fun _=>?_) (fun _=>?_)))
 refine callV_of (by rw[hC];exact runs0_p w (n+5) s hs l) rfl rfl rfl ?_
 repeat' (first|(simp (disch:=first|omega|assumption|(refine @id ((_:Bool)=_) ?_;exact id (by with_unfolding_all rfl))|(exact Or.inl rfl)|(exact Or.inl trivial)|(exact okL_map _ (fun _=>rfl) _)|(simp only[VVlen]<;>omega)|fail) only[VV0,VV1,VV2,VV3,VV4,VV5,VV6,VV7,VV8,VV9,mkFnV,vargs,slotsL,opdsA,Nat.reduceEqDiff,Nat.reduceLT,Nat.reduceAdd,Nat.reduceBEq,Int.reduceAdd,Int.reduceSub,Int.reduceLT,Int.reduceLE,Int.reduceEq,Int.reduceNeg,↓reduceIte,reduceCtorEq,scL,scD,expand,List.replicate,vsh,shH,shO,vshL,fzSL,fzS])|(refine gC_drawW ?_)|(refine gI_dec (fun _=>?_) (fun _=>?_))|(refine gG_dec (fun _=>?_) (fun _=>?_))|(refine gPG_dec (fun _=>?_) (fun _=>?_))|(refine gI_var (fun _=>?_) (fun _=>?_))|(refine gG_var (fun _=>?_) (fun _=>?_))|(refine gPG_var (fun _=>?_) (fun _=>?_)))
 refine g_rangeW (weak_nilCell (C:=C) (l:= [.sc (.pointer none),.sc (.slice none 0 0)]) 0 66 1 1 5 1 rfl rfl (fun h=>absurd (show (0:Nat)=3 from h) (by decide))) ?_
 refine g_range hC rfl rfl rfl (Nat.le_of_ble_eq_true rfl) rfl (Nat.zero_le _) fun C2 h2n h2r h2p h2o hT=>?_
 repeat' (first|(simp (disch:=first|omega|assumption|(refine @id ((_:Bool)=_) ?_;exact id (by with_unfolding_all rfl))|(exact Or.inl rfl)|(exact Or.inl trivial)|(exact okL_map _ (fun _=>rfl) _)|(simp only[VVlen]<;>omega)|fail) only[VV0,VV1,VV2,VV3,VV4,VV5,VV6,VV7,VV8,VV9,mkFnV,vargs,slotsL,opdsA,Nat.reduceEqDiff,Nat.reduceLT,Nat.reduceAdd,Nat.reduceBEq,Int.reduceAdd,Int.reduceSub,Int.reduceLT,Int.reduceLE,Int.reduceEq,Int.reduceNeg,↓reduceIte,reduceCtorEq,scL,scD,expand,List.replicate])|(refine gC_drawW ?_)|(refine gI_dec (fun _=>?_) (fun _=>?_))|(refine gG_dec (fun _=>?_) (fun _=>?_))|(refine gPG_dec (fun _=>?_) (fun _=>?_))|(refine gI_var (fun _=>?_) (fun _=>?_))|(refine gG_var (fun _=>?_) (fun _=>?_))|(refine gPG_var (fun _=>?_) (fun _=>?_)))
 refine runs_iter (d:=4) (o:=2) (s:=s) (l:=l) (J:=fun t st=>∃ r nx p acc,(r ≠ 0∧r ≠ 1∧r ≠ 2∧r ≠ 4∧r<nx∧4<nx)∧selfP 0 p∧acc.data.toList=txt (runsP l t)∧
  st=⟨[(4,recO 0),(r,.gro 5 1 false (strD acc)),(2,.box 22 1 [.sl s l.length (l.map iD)]),(1,.box 67 1 [.fn 34 [.ptr 0 0] []]),(0,.box 66 1 [p,.gr 2 r acc.size])],nx,0⟩) h2r (by omega) hT ?_ ?_ ?_ _ ?_
 ·rintro k st ⟨r,nx,p,acc,⟨h1,h2,h3,h4,h5,h6⟩,hp,ha,rfl⟩
  have b1:¬ 2=r:=fun h=>h3 h.symm
  exact ⟨22,by simp[aget_cons,h1,h2,h3,h4,b1]⟩
 ·rintro f t st Q2 hrun ⟨r,nx,p,acc,⟨h1,h2,h3,h4,h5,h6⟩,hp,ha,rfl⟩ hq2
  have b1:¬ (4=nx):=by omega
  have b2:¬ (r=nx):=by omega
  have b3:¬ (2=nx):=by omega
  have b4:¬ (1=nx):=by omega
  have b5:¬ (0=nx):=by omega
  have b6:¬ (4=r):=fun h=>h4 h.symm
  have b7:¬ (2=r):=fun h=>h3 h.symm
  have b8:¬ (1=r):=fun h=>h2 h.symm
  have b9:¬ (0=r):=fun h=>h1 h.symm
  refine ⟨Nat.zero_le _,rfl,h6,_,rfl,fun C4 h4c h4n=>?_⟩
  repeat' (first|(simp (disch:=first|omega|assumption|(refine @id ((_:Bool)=_) ?_;exact id (by with_unfolding_all rfl))|(exact Or.inl rfl)|(exact Or.inl trivial)|(exact okL_map _ (fun _=>rfl) _)|(simp only[VVlen]<;>omega)|fail) only[VV0,VV1,VV2,VV3,VV4,VV5,VV6,VV7,VV8,VV9,mkFnV,vargs,slotsL,opdsA,Nat.reduceEqDiff,Nat.reduceLT,Nat.reduceAdd,Nat.reduceBEq,Int.reduceAdd,Int.reduceSub,Int.reduceLT,Int.reduceLE,Int.reduceEq,Int.reduceNeg,↓reduceIte,reduceCtorEq,scL,scD,expand,List.replicate,b1,b2,b3,b4,b5,b6,b7,b8,b9,h1,h2,h3,h4])|(refine gC_drawW ?_)|(refine gI_dec (fun _=>?_) (fun _=>?_))|(refine gG_dec (fun _=>?_) (fun _=>?_))|(refine gPG_dec (fun _=>?_) (fun _=>?_))|(refine gI_var (fun _=>?_) (fun _=>?_))|(refine gG_var (fun _=>?_) (fun _=>?_))|(refine gPG_var (fun _=>?_) (fun _=>?_)))
  refine ⟨trivial,Nat.zero_le _,trivial,?_⟩
  repeat' (first|(simp (disch:=first|omega|assumption|(refine @id ((_:Bool)=_) ?_;exact id (by with_unfolding_all rfl))|(exact Or.inl rfl)|(exact Or.inl trivial)|(exact okL_map _ (fun _=>rfl) _)|(simp only[VVlen]<;>omega)|fail) only[VV0,VV1,VV2,VV3,VV4,VV5,VV6,VV7,VV8,VV9,mkFnV,vargs,slotsL,opdsA,Nat.reduceEqDiff,Nat.reduceLT,Nat.reduceAdd,Nat.reduceBEq,Int.reduceAdd,Int.reduceSub,Int.reduceLT,Int.reduceLE,Int.reduceEq,Int.reduceNeg,↓reduceIte,reduceCtorEq,scL,scD,expand,List.replicate,b1,b2,b3,b4,b5,b6,b7,b8,b9,h1,h2,h3,h4])|(refine gC_drawW ?_)|(refine gI_dec (fun _=>?_) (fun _=>?_))|(refine gG_dec (fun _=>?_) (fun _=>?_))|(refine gPG_dec (fun _=>?_) (fun _=>?_))|(refine gI_var (fun _=>?_) (fun _=>?_))|(refine gG_var (fun _=>?_) (fun _=>?_))|(refine gPG_var (fun _=>?_) (fun _=>?_)))
  refine callV_flat (by rw[h4c,hC];exact len_o w (n+5) _ 0 r p acc (by simp[aget_cons,b5,b9])) ?_
  have hle:=hrun.le
  have hlt:=hrun.lt
  have hcf:=hcol f (by omega)
  have hbn:=txt_len (runsP l f) (fun q hq=>⟨by have:=runsP_cnt l f q hq;omega,by obtain ⟨j,hj,e⟩:=runsP_col l f q hq;have:=hcol j (by omega);omega⟩)
  have hrl:=runsP_len l f
  have hasz:acc.size=(txt (runsP l f)).length:=by rw[← ha];simp
  have k1:=Lib.itoa_length_le ((t:Int) - f) (by omega) (by omega)
  have k2:=Lib.itoa_length_le l[f]! (by omega) (by omega)
  have hcat:((⟨(Lib.itoa ((t:Int) - f)).toArray⟩:ByteArray)++(⟨#[120]⟩:ByteArray))++(⟨(Lib.itoa l[f]!).toArray⟩:ByteArray)=⟨(txt1 ((t:Int) - f,l[f]!)).toArray⟩:=by
   apply ByteArray.ext
   simp[txt1]
  have q1:(⟨(Lib.itoa ((t:Int) - f)).toArray⟩:ByteArray).size=(Lib.itoa ((t:Int) - f)).length:=by simp[ByteArray.size]
  have q2:(⟨(Lib.itoa l[f]!).toArray⟩:ByteArray).size=(Lib.itoa l[f]!).length:=by simp[ByteArray.size]
  have q3:((⟨(Lib.itoa ((t:Int) - f)).toArray⟩:ByteArray)++(⟨#[120]⟩:ByteArray)).size=(Lib.itoa ((t:Int) - f)).length+1:=by rw[ByteArray.size_append,q1];rfl
  have q4:(⟨(txt1 ((t:Int) - f,l[f]!)).toArray⟩:ByteArray).size≤43:=by
   show (txt1 _).toArray.size≤43
   rw[List.size_toArray];unfold txt1;rw[List.length_append,List.length_cons];dsimp only;omega
  have q7:acc.size≤300000:=by omega
  generalize hX:txt1 ((t:Int) - f,l[f]!)=X at*
  generalize hXB:(⟨X.toArray⟩:ByteArray)=XB at*
  have q5:(⟨#[120]⟩:ByteArray).size=1:=rfl
  have q6:(⟨#[32]⟩:ByteArray).size=1:=rfl
  have e1:=b_sadd (⟨(Lib.itoa ((t:Int) - f)).toArray⟩:ByteArray) (⟨#[120]⟩:ByteArray) (by rw[q1,q5];omega)
  have e2:=b_sadd ((⟨(Lib.itoa ((t:Int) - f)).toArray⟩:ByteArray)++(⟨#[120]⟩:ByteArray)) (⟨(Lib.itoa l[f]!).toArray⟩:ByteArray) (by rw[q3,q2];omega)
  have hrr:runsP l t=runsP l f++ [((t:Int) - f,l[f]!)]:=runsP_run hrun
  have c1:¬ (r=nx+1):=by omega
  have c2:¬ (1=nx+1):=by omega
  have c3:¬ (4=nx+1):=by omega
  have c4:¬ (2=nx+1):=by omega
  have c5:¬ (0=nx+1):=by omega
  have c6:¬ (nx=r):=by omega
  have c7:¬ (nx=0):=by omega
  have c8:¬ (nx=nx+1):=by omega
  have c9:¬ (nx=1):=by omega
  have c10:¬ (nx=2):=by omega
  have c11:¬ (nx=4):=by omega
  have c12:¬ (nx=3):=by omega
  have c13:¬ (nx+1=nx):=by omega
  have c14:¬ (nx+1=4):=by omega
  have c15:¬ (nx+1=2):=by omega
  have c16:¬ (nx+1=1):=by omega
  have hnx4:C4.w0.nx=nx:=h4n
  have hcs:C4.E=EN w (n+3+3):=h4c.trans hC
  by_cases hz:acc.size=0
  ·have hte:txt (runsP l f)= []:=List.eq_nil_of_length_eq_zero (by omega)
   repeat' (first|(simp (disch:=first|omega|assumption|(refine @id ((_:Bool)=_) ?_;exact id (by with_unfolding_all rfl))|(exact Or.inl rfl)|(exact Or.inl trivial)|(exact okL_map _ (fun _=>rfl) _)|(simp only[VVlen]<;>omega)|fail) only[VV0,VV1,VV2,VV3,VV4,VV5,VV6,VV7,VV8,VV9,mkFnV,vargs,slotsL,opdsA,Nat.reduceEqDiff,Nat.reduceLT,Nat.reduceAdd,Nat.reduceBEq,Int.reduceAdd,Int.reduceSub,Int.reduceLT,Int.reduceLE,Int.reduceEq,Int.reduceNeg,↓reduceIte,reduceCtorEq,scL,scD,expand,List.replicate,b1,b2,b3,b4,b5,b6,b7,b8,b9,h1,h2,h3,h4])|(refine gC_drawW ?_)|(refine gI_dec (fun _=>?_) (fun _=>?_))|(refine gG_dec (fun _=>?_) (fun _=>?_))|(refine gPG_dec (fun _=>?_) (fun _=>?_))|(refine gI_var (fun _=>?_) (fun _=>?_))|(refine gG_var (fun _=>?_) (fun _=>?_))|(refine gPG_var (fun _=>?_) (fun _=>?_)))
   all_goals try (exfalso;omega)
   refine call0_of (by rw[hcs];exact itoa_s w (n+5) _ _ (by omega) (by omega)) ?_
   repeat' (first|(simp (disch:=first|omega|assumption|(refine @id ((_:Bool)=_) ?_;exact id (by with_unfolding_all rfl))|(exact Or.inl rfl)|(exact Or.inl trivial)|(exact okL_map _ (fun _=>rfl) _)|(simp only[VVlen]<;>omega)|fail) only[VV0,VV1,VV2,VV3,VV4,VV5,VV6,VV7,VV8,VV9,mkFnV,vargs,slotsL,opdsA,Nat.reduceEqDiff,Nat.reduceLT,Nat.reduceAdd,Nat.reduceBEq,Int.reduceAdd,Int.reduceSub,Int.reduceLT,Int.reduceLE,Int.reduceEq,Int.reduceNeg,↓reduceIte,reduceCtorEq,scL,scD,expand,List.replicate,e1,b1,b2,b3,b4,b5,b6,b7,b8,b9,h1,h2,h3,h4])|(refine gC_drawW ?_)|(refine gI_dec (fun _=>?_) (fun _=>?_))|(refine gG_dec (fun _=>?_) (fun _=>?_))|(refine gPG_dec (fun _=>?_) (fun _=>?_))|(refine gI_var (fun _=>?_) (fun _=>?_))|(refine gG_var (fun _=>?_) (fun _=>?_))|(refine gPG_var (fun _=>?_) (fun _=>?_)))
   refine call0_of (by rw[hcs];exact itoa_s w (n+5) _ _ (by omega) (by omega)) ?_
   repeat' (first|(simp (disch:=first|omega|assumption|(refine @id ((_:Bool)=_) ?_;exact id (by with_unfolding_all rfl))|(exact Or.inl rfl)|(exact Or.inl trivial)|(exact okL_map _ (fun _=>rfl) _)|(simp only[VVlen]<;>omega)|fail) only[VV0,VV1,VV2,VV3,VV4,VV5,VV6,VV7,VV8,VV9,mkFnV,vargs,slotsL,opdsA,Nat.reduceEqDiff,Nat.reduceLT,Nat.reduceAdd,Nat.reduceBEq,Int.reduceAdd,Int.reduceSub,Int.reduceLT,Int.reduceLE,Int.reduceEq,Int.reduceNeg,↓reduceIte,reduceCtorEq,scL,scD,expand,List.replicate,e2,hcat,b1,b2,b3,b4,b5,b6,b7,b8,b9,h1,h2,h3,h4])|(refine gC_drawW ?_)|(refine gI_dec (fun _=>?_) (fun _=>?_))|(refine gG_dec (fun _=>?_) (fun _=>?_))|(refine gPG_dec (fun _=>?_) (fun _=>?_))|(refine gI_var (fun _=>?_) (fun _=>?_))|(refine gG_var (fun _=>?_) (fun _=>?_))|(refine gPG_var (fun _=>?_) (fun _=>?_)))
   refine writeString_w w (n+3) hcs 0 r p acc _ (by simp[aget_cons,b5,b9]) (by simp[aget_cons,b2,h1,h2,h3,h4,Ne.symm h4,c6]) hp (Nat.zero_le _) (Nat.zero_le _) h1 c5 (by omega) ?_
   repeat' (first|(simp (disch:=first|omega|assumption|(refine @id ((_:Bool)=_) ?_;exact id (by with_unfolding_all rfl))|(exact Or.inl rfl)|(exact Or.inl trivial)|(exact okL_map _ (fun _=>rfl) _)|(simp only[VVlen]<;>omega)|fail) only[VV0,VV1,VV2,VV3,VV4,VV5,VV6,VV7,VV8,VV9,mkFnV,vargs,slotsL,opdsA,Nat.reduceEqDiff,Nat.reduceLT,Nat.reduceAdd,Nat.reduceBEq,Int.reduceAdd,Int.reduceSub,Int.reduceLT,Int.reduceLE,Int.reduceEq,Int.reduceNeg,↓reduceIte,reduceCtorEq,scL,scD,expand,List.replicate,b1,b2,b3,b4,b5,b6,b7,b8,b9,h1,h2,h3,h4,c1,c2,c3,c4,c5])|(refine gC_drawW ?_)|(refine gI_dec (fun _=>?_) (fun _=>?_))|(refine gG_dec (fun _=>?_) (fun _=>?_))|(refine gPG_dec (fun _=>?_) (fun _=>?_))|(refine gI_var (fun _=>?_) (fun _=>?_))|(refine gG_var (fun _=>?_) (fun _=>?_))|(refine gPG_var (fun _=>?_) (fun _=>?_)))
   refine ⟨Nat.zero_le _,trivial,_,weak_keep [4,nx+1,2,1,0] (by simp;omega) (by simp;omega) (by omega),?_⟩
   refine hq2 _ ⟨nx+1,nx+1+1,.ptr 0 0,acc++XB,by omega,.inr rfl,?_,?_⟩
   ·rw[hrr,txt_snoc,if_pos hte,hX,← hXB,ByteArray.data_append,Array.toList_append,ha,hte]
   ·simp[idR,renH,aget_cons,renO,recO,vrenL,vren,b1,b3,b4,b5,c2,c3,c4,c5,ByteArray.size_append,Ne.symm b3,Ne.symm b1,codeOf,c7,c12]
  ·have hte:txt (runsP l f) ≠ []:=fun h=>hz (by rw[hasz,h];rfl)
   have d1:¬ (nx+1=nx+1+1):=by omega
   have d2:¬ (1=nx+1+1):=by omega
   have d3:¬ (4=nx+1+1):=by omega
   have d4:¬ (2=nx+1+1):=by omega
   have d5:¬ (0=nx+1+1):=by omega
   have d6:¬ (nx+1=0):=by omega
   repeat' (first|(simp (disch:=first|omega|assumption|(refine @id ((_:Bool)=_) ?_;exact id (by with_unfolding_all rfl))|(exact Or.inl rfl)|(exact Or.inl trivial)|(exact okL_map _ (fun _=>rfl) _)|(simp only[VVlen]<;>omega)|fail) only[VV0,VV1,VV2,VV3,VV4,VV5,VV6,VV7,VV8,VV9,mkFnV,vargs,slotsL,opdsA,Nat.reduceEqDiff,Nat.reduceLT,Nat.reduceAdd,Nat.reduceBEq,Int.reduceAdd,Int.reduceSub,Int.reduceLT,Int.reduceLE,Int.reduceEq,Int.reduceNeg,↓reduceIte,reduceCtorEq,scL,scD,expand,List.replicate,b1,b2,b3,b4,b5,b6,b7,b8,b9,h1,h2,h3,h4])|(refine gC_drawW ?_)|(refine gI_dec (fun _=>?_) (fun _=>?_))|(refine gG_dec (fun _=>?_) (fun _=>?_))|(refine gPG_dec (fun _=>?_) (fun _=>?_))|(refine gI_var (fun _=>?_) (fun _=>?_))|(refine gG_var (fun _=>?_) (fun _=>?_))|(refine gPG_var (fun _=>?_) (fun _=>?_)))
   all_goals try (exfalso;omega)
   refine writeString_w w (n+3) hcs 0 r p acc _ (by simp[aget_cons,b5,b9]) (by simp[aget_cons,b2,h1,h2,h3,h4,Ne.symm h4,c6]) hp (Nat.zero_le _) (Nat.zero_le _) h1 c5 (by omega) ?_
   repeat' (first|(simp (disch:=first|omega|assumption|(refine @id ((_:Bool)=_) ?_;exact id (by with_unfolding_all rfl))|(exact Or.inl rfl)|(exact Or.inl trivial)|(exact okL_map _ (fun _=>rfl) _)|(simp only[VVlen]<;>omega)|fail) only[VV0,VV1,VV2,VV3,VV4,VV5,VV6,VV7,VV8,VV9,mkFnV,vargs,slotsL,opdsA,Nat.reduceEqDiff,Nat.reduceLT,Nat.reduceAdd,Nat.reduceBEq,Int.reduceAdd,Int.reduceSub,Int.reduceLT,Int.reduceLE,Int.reduceEq,Int.reduceNeg,↓reduceIte,reduceCtorEq,scL,scD,expand,List.replicate,b1,b2,b3,b4,b5,b6,b7,b8,b9,h1,h2,h3,h4,c1,c2,c3,c4,c5,c6,c7,c8,c9,c10,c11])|(refine gC_drawW ?_)|(refine gI_dec (fun _=>?_) (fun _=>?_))|(refine gG_dec (fun _=>?_) (fun _=>?_))|(refine gPG_dec (fun _=>?_) (fun _=>?_))|(refine gI_var (fun _=>?_) (fun _=>?_))|(refine gG_var (fun _=>?_) (fun _=>?_))|(refine gPG_var (fun _=>?_) (fun _=>?_)))
   refine call0_of (by rw[hcs];exact itoa_s w (n+5) _ _ (by omega) (by omega)) ?_
   repeat' (first|(simp (disch:=first|omega|assumption|(refine @id ((_:Bool)=_) ?_;exact id (by with_unfolding_all rfl))|(exact Or.inl rfl)|(exact Or.inl trivial)|(exact okL_map _ (fun _=>rfl) _)|(simp only[VVlen]<;>omega)|fail) only[VV0,VV1,VV2,VV3,VV4,VV5,VV6,VV7,VV8,VV9,mkFnV,vargs,slotsL,opdsA,Nat.reduceEqDiff,Nat.reduceLT,Nat.reduceAdd,Nat.reduceBEq,Int.reduceAdd,Int.reduceSub,Int.reduceLT,Int.reduceLE,Int.reduceEq,Int.reduceNeg,↓reduceIte,reduceCtorEq,scL,scD,expand,List.replicate,e1,b1,b2,b3,b4,b5,b6,b7,b8,b9,h1,h2,h3,h4,c1,c2,c3,c4,c5,c6,c7,c8,c9,c10,c11])|(refine gC_drawW ?_)|(refine gI_dec (fun _=>?_) (fun _=>?_))|(refine gG_dec (fun _=>?_) (fun _=>?_))|(refine gPG_dec (fun _=>?_) (fun _=>?_))|(refine gI_var (fun _=>?_) (fun _=>?_))|(refine gG_var (fun _=>?_) (fun _=>?_))|(refine gPG_var (fun _=>?_) (fun _=>?_)))
   refine call0_of (by rw[hcs];exact itoa_s w (n+5) _ _ (by omega) (by omega)) ?_
   repeat' (first|(simp (disch:=first|omega|assumption|(refine @id ((_:Bool)=_) ?_;exact id (by with_unfolding_all rfl))|(exact Or.inl rfl)|(exact Or.inl trivial)|(exact okL_map _ (fun _=>rfl) _)|(simp only[VVlen]<;>omega)|fail) only[VV0,VV1,VV2,VV3,VV4,VV5,VV6,VV7,VV8,VV9,mkFnV,vargs,slotsL,opdsA,Nat.reduceEqDiff,Nat.reduceLT,Nat.reduceAdd,Nat.reduceBEq,Int.reduceAdd,Int.reduceSub,Int.reduceLT,Int.reduceLE,Int.reduceEq,Int.reduceNeg,↓reduceIte,reduceCtorEq,scL,scD,expand,List.replicate,e2,hcat,b1,b2,b3,b4,b5,b6,b7,b8,b9,h1,h2,h3,h4,c1,c2,c3,c4,c5,c6,c7,c8,c9,c10,c11])|(refine gC_drawW ?_)|(refine gI_dec (fun _=>?_) (fun _=>?_))|(refine gG_dec (fun _=>?_) (fun _=>?_))|(refine gPG_dec (fun _=>?_) (fun _=>?_))|(refine gI_var (fun _=>?_) (fun _=>?_))|(refine gG_var (fun _=>?_) (fun _=>?_))|(refine gPG_var (fun _=>?_) (fun _=>?_)))
   refine writeString_w w (n+3) hcs 0 (nx+1) (.ptr 0 0) (acc++⟨#[32]⟩) _ (by simp[aget_cons,c7,b5,ByteArray.size_append]) (by simp[aget_cons]) (.inr rfl) (Nat.zero_le _) (Nat.zero_le _) d6 d5 (by rw[ByteArray.size_append];omega) ?_
   repeat' (first|(simp (disch:=first|omega|assumption|(refine @id ((_:Bool)=_) ?_;exact id (by with_unfolding_all rfl))|(exact Or.inl rfl)|(exact Or.inl trivial)|(exact okL_map _ (fun _=>rfl) _)|(simp only[VVlen]<;>omega)|fail) only[VV0,VV1,VV2,VV3,VV4,VV5,VV6,VV7,VV8,VV9,mkFnV,vargs,slotsL,opdsA,Nat.reduceEqDiff,Nat.reduceLT,Nat.reduceAdd,Nat.reduceBEq,Int.reduceAdd,Int.reduceSub,Int.reduceLT,Int.reduceLE,Int.reduceEq,Int.reduceNeg,↓reduceIte,reduceCtorEq,scL,scD,expand,List.replicate,b1,b2,b3,b4,b5,b6,b7,b8,b9,h1,h2,h3,h4,c1,c2,c3,c4,c5,c6,c7,c8,c9,c10,c11,d1,d2,d3,d4,d5,d6,c13,c14,c15,c16])|(refine gC_drawW ?_)|(refine gI_dec (fun _=>?_) (fun _=>?_))|(refine gG_dec (fun _=>?_) (fun _=>?_))|(refine gPG_dec (fun _=>?_) (fun _=>?_))|(refine gI_var (fun _=>?_) (fun _=>?_))|(refine gG_var (fun _=>?_) (fun _=>?_))|(refine gPG_var (fun _=>?_) (fun _=>?_)))
   refine ⟨Nat.zero_le _,trivial,_,weak_keep [4,nx+1+1,2,1,0] (by simp;omega) (by simp;omega) (by omega),?_⟩
   refine hq2 _ ⟨nx+1+1,nx+1+1+1,.ptr 0 0,acc++⟨#[32]⟩++XB,by omega,.inr rfl,?_,?_⟩
   ·rw[hrr,txt_snoc,if_neg hte,hX,← hXB,ByteArray.data_append,Array.toList_append,ByteArray.data_append,Array.toList_append,ha]
   ·simp[idR,renH,aget_cons,renO,recO,vrenL,vren,b1,b3,b4,b5,c2,c3,c4,c5,ByteArray.size_append,Ne.symm b3,Ne.symm b1,codeOf,c7,c9,c10,c11,c12]
 ·rintro fr st ⟨r,nx,p,acc,⟨h1,h2,h3,h4,h5,h6⟩,hp,ha,rfl⟩
  refine ⟨fun i h=>(by cases h),Nat.zero_le _,0,.normal,rfl,rfl,?_⟩
  have b6:¬ (4=r):=fun h=>h4 h.symm
  have b9:¬ (0=r):=fun h=>h1 h.symm
  repeat' (first|(simp (disch:=first|omega|assumption|(refine @id ((_:Bool)=_) ?_;exact id (by with_unfolding_all rfl))|(exact Or.inl rfl)|(exact Or.inl trivial)|(exact okL_map _ (fun _=>rfl) _)|(simp only[VVlen]<;>omega)|fail) only[VV0,VV1,VV2,VV3,VV4,VV5,VV6,VV7,VV8,VV9,mkFnV,vargs,slotsL,opdsA,Nat.reduceEqDiff,Nat.reduceLT,Nat.reduceAdd,Nat.reduceBEq,Int.reduceAdd,Int.reduceSub,Int.reduceLT,Int.reduceLE,Int.reduceEq,Int.reduceNeg,↓reduceIte,reduceCtorEq,scL,scD,expand,List.replicate,b6,b9,h1,h2,h3,h4])|(refine gC_drawW ?_)|(refine gI_dec (fun _=>?_) (fun _=>?_))|(refine gG_dec (fun _=>?_) (fun _=>?_))|(refine gPG_dec (fun _=>?_) (fun _=>?_))|(refine gI_var (fun _=>?_) (fun _=>?_))|(refine gG_var (fun _=>?_) (fun _=>?_))|(refine gPG_var (fun _=>?_) (fun _=>?_)))
  have hbn:=txt_len (runsP l l.length) (fun q hq=>⟨by have:=runsP_cnt l l.length q hq;omega,by obtain ⟨j,hj,e⟩:=runsP_col l l.length q hq;have:=hcol j (by omega);omega⟩)
  have hrl:=runsP_len l l.length
  have hasz:acc.size=(txt (runsP l l.length)).length:=by rw[← ha];simp
  have hacc:acc=⟨(txt (runsP l l.length)).toArray⟩:=by
   apply ByteArray.ext;apply Array.ext';rw[ha]
  refine string_w w (n+5) hC 0 r p acc (by simp[aget_cons,b9]) (by simp[aget_cons]) (Nat.zero_le _) (Nat.zero_le _) (by omega) fun st' hst=>?_
  rw[hacc]
  exact weak_flat rfl hn hst
 ·refine ⟨3,5,.sc (.pointer none),⟨#[]⟩,by decide,.inl rfl,rfl,?_⟩
  rfl
end
end Go.Proofs.YtgglaaldlegckaaDoor
namespace Go.Proofs.YtgglaaldlegckaaDoor
open Go Go.Itp
set_option maxRecDepth 100000
set_option maxHeartbeats 1000000
set_option linter.unusedSimpArgs false
theorem runC_f1 (R:List (Int × Int)) (k:Nat) (hk:k<R.length):dload (runC R) (k*2+1) none=some (.sc (.int .i64 R[k]!.2)):=by
 have:=dload_flat1 (fun p:Int × Int=> [iD p.1,iD p.2]) 2 R (fun _=>rfl) k 1 hk (by decide)
 unfold runC
 rw[this]
 rfl
section
variable (w:World) (n:Nat)
end
end Go.Proofs.YtgglaaldlegckaaDoor
namespace Go.Proofs.YtgglaaldlegckaaDoor
open Go Go.Itp
set_option maxRecDepth 100000
set_option maxHeartbeats 1000000
set_option linter.unusedSimpArgs false
section
variable (w:World) (n:Nat)
end
end Go.Proofs.YtgglaaldlegckaaDoor
namespace Go.Proofs.YtgglaaldlegckaaDoor
open Go Go.Itp
set_option maxRecDepth 100000
set_option maxHeartbeats 1000000
set_option linter.unusedSimpArgs false
section
variable (w:World) (n:Nat)
theorem indexByteString_o (st:VSt) (l:List UInt8) (c:UInt8):VSpecO (EN w (n+1)) 91 st [strV l,.sc (.int .u8 c.toNat)] (.sc (.int .i64 (idxB c l))):=by
 refine prim_o (ys:= [.string ⟨l.toArray⟩,.int .u8 c.toNat]) (fun s=>?_) rfl
 refine orElse_right rfl (orElse_left ?_)
 show primA .indexByte 0 [.string ⟨l.toArray⟩,.int .u8 c.toNat] s=_
 unfold primA
 simp only[Int.toNat_natCast]
 rw[show c.toNat.toUInt8=c by simp,firstIdxA_l]
theorem indexByte_p (l:List UInt8) (c:UInt8):VSpec (EN w (n+2)) 79 [strV l,.sc (.int .u8 c.toNat)] (.sc (.int .i64 (idxB c l))) ⟨[],0,0⟩:=by
 refine vspec_flat rfl rfl (fun _ _=>rfl) (Nat.le_of_ble_eq_true rfl) (oldVals w) rfl fun C hC h0=>?_
 repeat' (first|(simp (disch:=first|omega|assumption|(refine @id ((_:Bool)=_) ?_;exact id (by with_unfolding_all rfl))|(exact Or.inl rfl)|(exact Or.inl trivial)|(exact okL_map _ (fun _=>rfl) _)|(simp only[VVlen]<;>omega)|fail) only[VV0,VV1,VV2,VV3,VV4,VV5,VV6,VV7,VV8,VV9,mkFnV,vargs,slotsL,opdsA,Nat.reduceEqDiff,Nat.reduceLT,Nat.reduceAdd,Nat.reduceBEq,Int.reduceAdd,Int.reduceSub,Int.reduceLT,Int.reduceLE,Int.reduceEq,Int.reduceNeg,↓reduceIte,reduceCtorEq,scL,scD,expand,List.replicate,c79])|(refine gC_drawW ?_)|(refine gI_dec (fun _=>?_) (fun _=>?_))|(refine gG_dec (fun _=>?_) (fun _=>?_))|(refine gPG_dec (fun _=>?_) (fun _=>?_))|(refine gI_var (fun _=>?_) (fun _=>?_))|(refine gG_var (fun _=>?_) (fun _=>?_))|(refine gPG_var (fun _=>?_) (fun _=>?_)))
 refine callV_flat (by rw[hC];exact indexByteString_o w n _ l c) ?_
 repeat' (first|(simp (disch:=first|omega|assumption|(refine @id ((_:Bool)=_) ?_;exact id (by with_unfolding_all rfl))|(exact Or.inl rfl)|(exact Or.inl trivial)|(exact okL_map _ (fun _=>rfl) _)|(simp only[VVlen]<;>omega)|fail) only[VV0,VV1,VV2,VV3,VV4,VV5,VV6,VV7,VV8,VV9,mkFnV,vargs,slotsL,opdsA,Nat.reduceEqDiff,Nat.reduceLT,Nat.reduceAdd,Nat.reduceBEq,Int.reduceAdd,Int.reduceSub,Int.reduceLT,Int.reduceLE,Int.reduceEq,Int.reduceNeg,↓reduceIte,reduceCtorEq,scL,scD,expand,List.replicate])|(refine gC_drawW ?_)|(refine gI_dec (fun _=>?_) (fun _=>?_))|(refine gG_dec (fun _=>?_) (fun _=>?_))|(refine gPG_dec (fun _=>?_) (fun _=>?_))|(refine gI_var (fun _=>?_) (fun _=>?_))|(refine gG_var (fun _=>?_) (fun _=>?_))|(refine gPG_var (fun _=>?_) (fun _=>?_)))
 exact weak_flat rfl h0 rfl
theorem index1_p (l:List UInt8) (c:UInt8) (hl:l.length≤1000000000):VSpec (EN w (n+3)) 68 [strV l,strV [c]] (.sc (.int .i64 (idxB c l))) ⟨[],0,0⟩:=by
 refine vspec_flat rfl rfl (fun _ _=>rfl) (Nat.le_of_ble_eq_true rfl) (oldVals w) rfl fun C hC h0=>?_
 have h1:(ByteArray.mk [c].toArray).size=1:=rfl
 have hlc:((ByteArray.mk [c].toArray)=ByteArray.mk l.toArray)↔l= [c]:=by
  constructor
  ·intro h
   have:=congrArg (fun b:ByteArray=>b.data.toList) h
   simpa using this.symm
  ·rintro rfl;rfl
 by_cases hc:l= [c]
 ·subst hc
  have hi:idxB c [c]=0:=idxB_app (a:= []) [] (by simp)
  rw[hi]
  repeat' (first|(simp (disch:=first|omega|assumption|(refine @id ((_:Bool)=_) ?_;exact id (by with_unfolding_all rfl))|(exact Or.inl rfl)|(exact Or.inl trivial)|(exact okL_map _ (fun _=>rfl) _)|(simp only[VVlen]<;>omega)|fail) only[VV0,VV1,VV2,VV3,VV4,VV5,VV6,VV7,VV8,VV9,mkFnV,vargs,slotsL,opdsA,Nat.reduceEqDiff,Nat.reduceLT,Nat.reduceAdd,Nat.reduceBEq,Int.reduceAdd,Int.reduceSub,Int.reduceLT,Int.reduceLE,Int.reduceEq,Int.reduceNeg,↓reduceIte,reduceCtorEq,scL,scD,expand,List.replicate,c68,h1])|(refine gC_drawW ?_)|(refine gI_dec (fun _=>?_) (fun _=>?_))|(refine gG_dec (fun _=>?_) (fun _=>?_))|(refine gPG_dec (fun _=>?_) (fun _=>?_))|(refine gI_var (fun _=>?_) (fun _=>?_))|(refine gG_var (fun _=>?_) (fun _=>?_))|(refine gPG_var (fun _=>?_) (fun _=>?_)))
  exact weak_flat rfl h0 rfl
 ·have hb:idxStrV (strV [c]) (.sc (.int .i64 0))=some (.sc (.int .u8 c.toNat)):=by
   rw[idxStr_l _ _ _ (by omega) (by simp)]
   rfl
  repeat' (first|(simp (disch:=first|omega|assumption|(refine @id ((_:Bool)=_) ?_;exact id (by with_unfolding_all rfl))|(exact Or.inl rfl)|(exact Or.inl trivial)|(exact okL_map _ (fun _=>rfl) _)|(simp only[VVlen]<;>omega)|fail) only[VV0,VV1,VV2,VV3,VV4,VV5,VV6,VV7,VV8,VV9,mkFnV,vargs,slotsL,opdsA,Nat.reduceEqDiff,Nat.reduceLT,Nat.reduceAdd,Nat.reduceBEq,Int.reduceAdd,Int.reduceSub,Int.reduceLT,Int.reduceLE,Int.reduceEq,Int.reduceNeg,↓reduceIte,reduceCtorEq,scL,scD,expand,List.replicate,c68,h1,hlc,hc,hb])|(refine gC_drawW ?_)|(refine gI_dec (fun _=>?_) (fun _=>?_))|(refine gG_dec (fun _=>?_) (fun _=>?_))|(refine gPG_dec (fun _=>?_) (fun _=>?_))|(refine gI_var (fun _=>?_) (fun _=>?_))|(refine gG_var (fun _=>?_) (fun _=>?_))|(refine gPG_var (fun _=>?_) (fun _=>?_)))
  refine callV_flat ((indexByte_p w n l c).of hC rfl _ rfl) ?_
  repeat' (first|(simp (disch:=first|omega|assumption|(refine @id ((_:Bool)=_) ?_;exact id (by with_unfolding_all rfl))|(exact Or.inl rfl)|(exact Or.inl trivial)|(exact okL_map _ (fun _=>rfl) _)|(simp only[VVlen]<;>omega)|fail) only[VV0,VV1,VV2,VV3,VV4,VV5,VV6,VV7,VV8,VV9,mkFnV,vargs,slotsL,opdsA,Nat.reduceEqDiff,Nat.reduceLT,Nat.reduceAdd,Nat.reduceBEq,Int.reduceAdd,Int.reduceSub,Int.reduceLT,Int.reduceLE,Int.reduceEq,Int.reduceNeg,↓reduceIte,reduceCtorEq,scL,scD,expand,List.replicate])|(refine gC_drawW ?_)|(refine gI_dec (fun _=>?_) (fun _=>?_))|(refine gG_dec (fun _=>?_) (fun _=>?_))|(refine gPG_dec (fun _=>?_) (fun _=>?_))|(refine gI_var (fun _=>?_) (fun _=>?_))|(refine gG_var (fun _=>?_) (fun _=>?_))|(refine gPG_var (fun _=>?_) (fun _=>?_)))
  exact weak_flat rfl h0 rfl
theorem index_p (l:List UInt8) (c:UInt8) (hl:l.length≤1000000000):VSpec (EN w (n+4)) 67 [strV l,strV [c]] (.sc (.int .i64 (idxB c l))) ⟨[],0,0⟩:=by
 refine vspec_flat rfl rfl (fun _ _=>rfl) (Nat.le_of_ble_eq_true rfl) (oldVals w) rfl fun C hC h0=>?_
 repeat' (first|(simp (disch:=first|omega|assumption|(refine @id ((_:Bool)=_) ?_;exact id (by with_unfolding_all rfl))|(exact Or.inl rfl)|(exact Or.inl trivial)|(exact okL_map _ (fun _=>rfl) _)|(simp only[VVlen]<;>omega)|fail) only[VV0,VV1,VV2,VV3,VV4,VV5,VV6,VV7,VV8,VV9,mkFnV,vargs,slotsL,opdsA,Nat.reduceEqDiff,Nat.reduceLT,Nat.reduceAdd,Nat.reduceBEq,Int.reduceAdd,Int.reduceSub,Int.reduceLT,Int.reduceLE,Int.reduceEq,Int.reduceNeg,↓reduceIte,reduceCtorEq,scL,scD,expand,List.replicate,c67])|(refine gC_drawW ?_)|(refine gI_dec (fun _=>?_) (fun _=>?_))|(refine gG_dec (fun _=>?_) (fun _=>?_))|(refine gPG_dec (fun _=>?_) (fun _=>?_))|(refine gI_var (fun _=>?_) (fun _=>?_))|(refine gG_var (fun _=>?_) (fun _=>?_))|(refine gPG_var (fun _=>?_) (fun _=>?_)))
 refine callV_flat ((index1_p w n l c hl).of hC rfl _ rfl) ?_
 repeat' (first|(simp (disch:=first|omega|assumption|(refine @id ((_:Bool)=_) ?_;exact id (by with_unfolding_all rfl))|(exact Or.inl rfl)|(exact Or.inl trivial)|(exact okL_map _ (fun _=>rfl) _)|(simp only[VVlen]<;>omega)|fail) only[VV0,VV1,VV2,VV3,VV4,VV5,VV6,VV7,VV8,VV9,mkFnV,vargs,slotsL,opdsA,Nat.reduceEqDiff,Nat.reduceLT,Nat.reduceAdd,Nat.reduceBEq,Int.reduceAdd,Int.reduceSub,Int.reduceLT,Int.reduceLE,Int.reduceEq,Int.reduceNeg,↓reduceIte,reduceCtorEq,scL,scD,expand,List.replicate])|(refine gC_drawW ?_)|(refine gI_dec (fun _=>?_) (fun _=>?_))|(refine gG_dec (fun _=>?_) (fun _=>?_))|(refine gPG_dec (fun _=>?_) (fun _=>?_))|(refine gI_var (fun _=>?_) (fun _=>?_))|(refine gG_var (fun _=>?_) (fun _=>?_))|(refine gPG_var (fun _=>?_) (fun _=>?_)))
 exact weak_flat rfl h0 rfl
def cutB (c:UInt8) (l:List UInt8):List UInt8 × List UInt8 × Bool:=if 0≤idxB c l then (l.take (idxB c l).toNat,l.drop ((idxB c l).toNat+1),true) else (l,[],false)
theorem cut1_p (l:List UInt8) (c:UInt8) (hl:l.length≤1000000000):VSpec (EN w (n+4)) 58 [strV l,strV [c]] (.tup [strV (cutB c l).1,strV (cutB c l).2.1,.sc (.bool (cutB c l).2.2)]) ⟨[],0,0⟩:=by
 refine vspec_flat rfl rfl (fun _ _=>rfl) (Nat.le_of_ble_eq_true rfl) (oldVals w) rfl fun C hC h0=>?_
 have h1:(ByteArray.mk [c].toArray).size=1:=rfl
 repeat' (first|(simp (disch:=first|omega|assumption|(refine @id ((_:Bool)=_) ?_;exact id (by with_unfolding_all rfl))|(exact Or.inl rfl)|(exact Or.inl trivial)|(exact okL_map _ (fun _=>rfl) _)|(simp only[VVlen]<;>omega)|fail) only[VV0,VV1,VV2,VV3,VV4,VV5,VV6,VV7,VV8,VV9,mkFnV,vargs,slotsL,opdsA,Nat.reduceEqDiff,Nat.reduceLT,Nat.reduceAdd,Nat.reduceBEq,Int.reduceAdd,Int.reduceSub,Int.reduceLT,Int.reduceLE,Int.reduceEq,Int.reduceNeg,↓reduceIte,reduceCtorEq,scL,scD,expand,List.replicate,c58])|(refine gC_drawW ?_)|(refine gI_dec (fun _=>?_) (fun _=>?_))|(refine gG_dec (fun _=>?_) (fun _=>?_))|(refine gPG_dec (fun _=>?_) (fun _=>?_))|(refine gI_var (fun _=>?_) (fun _=>?_))|(refine gG_var (fun _=>?_) (fun _=>?_))|(refine gPG_var (fun _=>?_) (fun _=>?_)))
 refine callV_flat ((index1_p w n l c hl).of hC rfl _ rfl) ?_
 rcases byte_split c l with hf|⟨a,r,rfl,hf⟩
 ·have hi:=idxB_free hf
  have e:cutB c l=(l,[],false):=by unfold cutB;rw[if_neg (by omega)]
  rw[e,hi]
  repeat' (first|(simp (disch:=first|omega|assumption|(refine @id ((_:Bool)=_) ?_;exact id (by with_unfolding_all rfl))|(exact Or.inl rfl)|(exact Or.inl trivial)|(exact okL_map _ (fun _=>rfl) _)|(simp only[VVlen]<;>omega)|fail) only[VV0,VV1,VV2,VV3,VV4,VV5,VV6,VV7,VV8,VV9,mkFnV,vargs,slotsL,opdsA,Nat.reduceEqDiff,Nat.reduceLT,Nat.reduceAdd,Nat.reduceBEq,Int.reduceAdd,Int.reduceSub,Int.reduceLT,Int.reduceLE,Int.reduceEq,Int.reduceNeg,↓reduceIte,reduceCtorEq,scL,scD,expand,List.replicate])|(refine gC_drawW ?_)|(refine gI_dec (fun _=>?_) (fun _=>?_))|(refine gG_dec (fun _=>?_) (fun _=>?_))|(refine gPG_dec (fun _=>?_) (fun _=>?_))|(refine gI_var (fun _=>?_) (fun _=>?_))|(refine gG_var (fun _=>?_) (fun _=>?_))|(refine gPG_var (fun _=>?_) (fun _=>?_)))
  all_goals try (exfalso;omega)
  exact weak_flat rfl h0 rfl
 ·have hi:=idxB_app r hf
  have e:cutB c (a++c::r)=(a,r,true):=by unfold cutB;rw[if_pos (by omega),hi];simp
  rw[e,hi]
  have hal:a.length≤1000000000:=by simp at hl;omega
  have hb:a.length+(c::r).length≤1000000000:=by simpa using hl
  have e1:=slcS_hi (a++c::r) .i64 a.length (by omega) (by simp;omega)
  have e2:=slcS_lo (a++c::r) .i64 ((a.length:Int)+1) (by omega) (by simp;omega)
  rw[Int.toNat_natCast,List.take_left] at e1
  rw[show ((a.length:Int)+1).toNat=a.length+1 by omega,show (a++c::r).drop (a.length+1)=r by rw[← List.drop_drop];simp] at e2
  have h1i:((1:Nat):Int)=1:=rfl
  repeat' (first|(simp (disch:=first|omega|assumption|(refine @id ((_:Bool)=_) ?_;exact id (by with_unfolding_all rfl))|(exact Or.inl rfl)|(exact Or.inl trivial)|(exact okL_map _ (fun _=>rfl) _)|(simp only[VVlen]<;>omega)|fail) only[VV0,VV1,VV2,VV3,VV4,VV5,VV6,VV7,VV8,VV9,mkFnV,vargs,slotsL,opdsA,Nat.reduceEqDiff,Nat.reduceLT,Nat.reduceAdd,Nat.reduceBEq,Int.reduceAdd,Int.reduceSub,Int.reduceLT,Int.reduceLE,Int.reduceEq,Int.reduceNeg,↓reduceIte,reduceCtorEq,scL,scD,expand,List.replicate,h1,h1i,e1,e2])|(refine gC_drawW ?_)|(refine gI_dec (fun _=>?_) (fun _=>?_))|(refine gG_dec (fun _=>?_) (fun _=>?_))|(refine gPG_dec (fun _=>?_) (fun _=>?_))|(refine gI_var (fun _=>?_) (fun _=>?_))|(refine gG_var (fun _=>?_) (fun _=>?_))|(refine gPG_var (fun _=>?_) (fun _=>?_)))
  all_goals try (exfalso;omega)
  exact weak_flat rfl h0 rfl
theorem cut_p (l:List UInt8) (c:UInt8) (hl:l.length≤1000000000):VSpec (EN w (n+5)) 48 [strV l,strV [c]] (.tup [strV (cutB c l).1,strV (cutB c l).2.1,.sc (.bool (cutB c l).2.2)]) ⟨[],0,0⟩:=by
 refine vspec_flat rfl rfl (fun _ _=>rfl) (Nat.le_of_ble_eq_true rfl) (oldVals w) rfl fun C hC h0=>?_
 repeat' (first|(simp (disch:=first|omega|assumption|(refine @id ((_:Bool)=_) ?_;exact id (by with_unfolding_all rfl))|(exact Or.inl rfl)|(exact Or.inl trivial)|(exact okL_map _ (fun _=>rfl) _)|(simp only[VVlen]<;>omega)|fail) only[VV0,VV1,VV2,VV3,VV4,VV5,VV6,VV7,VV8,VV9,mkFnV,vargs,slotsL,opdsA,Nat.reduceEqDiff,Nat.reduceLT,Nat.reduceAdd,Nat.reduceBEq,Int.reduceAdd,Int.reduceSub,Int.reduceLT,Int.reduceLE,Int.reduceEq,Int.reduceNeg,↓reduceIte,reduceCtorEq,scL,scD,expand,List.replicate,c48])|(refine gC_drawW ?_)|(refine gI_dec (fun _=>?_) (fun _=>?_))|(refine gG_dec (fun _=>?_) (fun _=>?_))|(refine gPG_dec (fun _=>?_) (fun _=>?_))|(refine gI_var (fun _=>?_) (fun _=>?_))|(refine gG_var (fun _=>?_) (fun _=>?_))|(refine gPG_var (fun _=>?_) (fun _=>?_)))
 refine callV_flat ((cut1_p w n l c hl).of hC rfl _ rfl) ?_
 repeat' (first|(simp (disch:=first|omega|assumption|(refine @id ((_:Bool)=_) ?_;exact id (by with_unfolding_all rfl))|(exact Or.inl rfl)|(exact Or.inl trivial)|(exact okL_map _ (fun _=>rfl) _)|(simp only[VVlen]<;>omega)|fail) only[VV0,VV1,VV2,VV3,VV4,VV5,VV6,VV7,VV8,VV9,mkFnV,vargs,slotsL,opdsA,Nat.reduceEqDiff,Nat.reduceLT,Nat.reduceAdd,Nat.reduceBEq,Int.reduceAdd,Int.reduceSub,Int.reduceLT,Int.reduceLE,Int.reduceEq,Int.reduceNeg,↓reduceIte,reduceCtorEq,scL,scD,expand,List.replicate])|(refine gC_drawW ?_)|(refine gI_dec (fun _=>?_) (fun _=>?_))|(refine gG_dec (fun _=>?_) (fun _=>?_))|(refine gPG_dec (fun _=>?_) (fun _=>?_))|(refine gI_var (fun _=>?_) (fun _=>?_))|(refine gG_var (fun _=>?_) (fun _=>?_))|(refine gPG_var (fun _=>?_) (fun _=>?_)))
 exact weak_flat rfl h0 rfl
end
end Go.Proofs.YtgglaaldlegckaaDoor
namespace Go.Proofs.YtgglaaldlegckaaDoor
open Go Go.Itp
set_option maxRecDepth 100000
set_option maxHeartbeats 1000000
set_option linter.unusedSimpArgs false
abbrev sBox (l:List UInt8):Itp.Obj:= .box 9 1 [strV l]
theorem split_ret (l:List UInt8) (c:UInt8):RetOK [(2,.box 3 1 [.sc (.int .i64 0)]),(1,sBox [c]),(0,sBox l)] (.fn 65 [] [.ptr 1 0,.ptr 0 0,.ptr 2 0]):=by
 refine ⟨?_,fun o t e L h=>?_,fun o ob h=>?_⟩
 ·simp only[Cl,ClL,and_true,true_and]
  exact ⟨⟨_,rfl,rfl⟩,⟨_,rfl,rfl⟩,⟨_,rfl,rfl⟩⟩
 ·simp only[aget_cons,aget_nil] at h
  split at h
  ·cases h;exact ⟨trivial,trivial⟩
  split at h
  ·cases h;exact ⟨trivial,trivial⟩
  split at h
  ·cases h;exact ⟨trivial,trivial⟩
  ·cases h
 ·intro _
  refine VR.root o ?_
  simp only[aget_cons,aget_nil] at h
  simp only[vids,vidsL,List.mem_append,List.mem_cons,List.not_mem_nil,or_false,false_or]
  split at h
  ·omega
  split at h
  ·omega
  split at h
  ·omega
  ·cases h
section
variable (w:World) (n:Nat)
theorem splitSeq0_p (l:List UInt8) (c:UInt8):VSpec (EN w (n+1)) 57 [strV l,strV [c],.sc (.int .i64 0)] (.fn 65 [] [.ptr 1 0,.ptr 0 0,.ptr 2 0]) ⟨[(2,.box 3 1 [.sc (.int .i64 0)]),(1,sBox [c]),(0,sBox l)],3,0⟩:=by
 refine vspec_g rfl rfl (fun _ _=>rfl) (Nat.le_of_ble_eq_true rfl) (oldVals w) (split_ret l c) rfl fun C hC hn=>?_
 repeat' (first|(simp (disch:=first|omega|assumption|(refine @id ((_:Bool)=_) ?_;exact id (by with_unfolding_all rfl))|(exact Or.inl rfl)|(exact Or.inl trivial)|(exact okL_map _ (fun _=>rfl) _)|(simp only[VVlen]<;>omega)|fail) only[VV0,VV1,VV2,VV3,VV4,VV5,VV6,VV7,VV8,VV9,mkFnV,vargs,slotsL,opdsA,Nat.reduceEqDiff,Nat.reduceLT,Nat.reduceAdd,Nat.reduceBEq,Int.reduceAdd,Int.reduceSub,Int.reduceLT,Int.reduceLE,Int.reduceEq,Int.reduceNeg,↓reduceIte,reduceCtorEq,scL,scD,expand,List.replicate,c57])|(refine gC_drawW ?_)|(refine gI_dec (fun _=>?_) (fun _=>?_))|(refine gG_dec (fun _=>?_) (fun _=>?_))|(refine gPG_dec (fun _=>?_) (fun _=>?_))|(refine gI_var (fun _=>?_) (fun _=>?_))|(refine gG_var (fun _=>?_) (fun _=>?_))|(refine gPG_var (fun _=>?_) (fun _=>?_)))
 exact weak_to [(2,2),(1,1),(0,0)] 3 hn rfl rfl rfl rfl
theorem splitSeq_p (l:List UInt8) (c:UInt8):VSpec (EN w (n+2)) 47 [strV l,strV [c]] (.fn 65 [] [.ptr 1 0,.ptr 0 0,.ptr 2 0]) ⟨[(2,.box 3 1 [.sc (.int .i64 0)]),(1,sBox [c]),(0,sBox l)],3,0⟩:=by
 refine vspec_g rfl rfl (fun _ _=>rfl) (Nat.le_of_ble_eq_true rfl) (oldVals w) (split_ret l c) rfl fun C hC hn=>?_
 repeat' (first|(simp (disch:=first|omega|assumption|(refine @id ((_:Bool)=_) ?_;exact id (by with_unfolding_all rfl))|(exact Or.inl rfl)|(exact Or.inl trivial)|(exact okL_map _ (fun _=>rfl) _)|(simp only[VVlen]<;>omega)|fail) only[VV0,VV1,VV2,VV3,VV4,VV5,VV6,VV7,VV8,VV9,mkFnV,vargs,slotsL,opdsA,Nat.reduceEqDiff,Nat.reduceLT,Nat.reduceAdd,Nat.reduceBEq,Int.reduceAdd,Int.reduceSub,Int.reduceLT,Int.reduceLE,Int.reduceEq,Int.reduceNeg,↓reduceIte,reduceCtorEq,scL,scD,expand,List.replicate,c47])|(refine gC_drawW ?_)|(refine gI_dec (fun _=>?_) (fun _=>?_))|(refine gG_dec (fun _=>?_) (fun _=>?_))|(refine gPG_dec (fun _=>?_) (fun _=>?_))|(refine gI_var (fun _=>?_) (fun _=>?_))|(refine gG_var (fun _=>?_) (fun _=>?_))|(refine gPG_var (fun _=>?_) (fun _=>?_)))
 refine callV_of (by rw[hC];exact splitSeq0_p w n l c) rfl rfl rfl ?_
 repeat' (first|(simp (disch:=first|omega|assumption|(refine @id ((_:Bool)=_) ?_;exact id (by with_unfolding_all rfl))|(exact Or.inl rfl)|(exact Or.inl trivial)|(exact okL_map _ (fun _=>rfl) _)|(simp only[VVlen]<;>omega)|fail) only[VV0,VV1,VV2,VV3,VV4,VV5,VV6,VV7,VV8,VV9,mkFnV,vargs,slotsL,opdsA,Nat.reduceEqDiff,Nat.reduceLT,Nat.reduceAdd,Nat.reduceBEq,Int.reduceAdd,Int.reduceSub,Int.reduceLT,Int.reduceLE,Int.reduceEq,Int.reduceNeg,↓reduceIte,reduceCtorEq,scL,scD,expand,List.replicate,vsh,vshL,shH,shO,fzSL,fzS])|(refine gC_drawW ?_)|(refine gI_dec (fun _=>?_) (fun _=>?_))|(refine gG_dec (fun _=>?_) (fun _=>?_))|(refine gPG_dec (fun _=>?_) (fun _=>?_))|(refine gI_var (fun _=>?_) (fun _=>?_))|(refine gG_var (fun _=>?_) (fun _=>?_))|(refine gPG_var (fun _=>?_) (fun _=>?_)))
 exact weak_to [(2,2),(1,1),(0,0)] 3 hn rfl rfl rfl rfl
end
theorem split_iter {C':Ctx} {E:Env} {a b:AC} {fr:VFr} {ps:List Nat} {d oP oS oV:Nat} {c:UInt8} {s:List UInt8} (w:World) (n:Nat) (J:List (List UInt8)→List UInt8→VSt→Prop) (S:VSt→Prop) {P:VPost}
  (hE:C'.E.pcall=(EN w (n+4)).pcall) (hO:C'.E.old=oldOf w) (hr:C'.E.rounds=many) (hl:s.length≤1000000) (hT:∀ xs st Q,RoundV E a b fr ps d xs st Q→CallT C' d xs st Q)
  (hbox:∀ dn r st,J dn r st→aget st.own oS=some (sBox r)∧aget st.own oP=some (sBox [c])∧aget st.own oV=some (.box 3 1 [.sc (.int .i64 0)])∧st.ro≤oS)
  (hround:∀ dn r x ws st (Q:V→VSt→Prop),words c s=dn++words c r→words c r=x::ws→J dn r st→(∀ st',J (dn++ [x]) r st'→Q (.sc (.bool true)) st')→(∀ st',S st'→Q (.sc (.bool false)) st')→RoundV E a b fr ps d [strV x] st Q)
  (hset:∀ dn r r' st,J dn r st→J dn r' ⟨aset st.own oS (sBox r'),st.next,st.ro⟩)
  (hend:∀ fr st r,J (words c s) r st→P .normal fr st) (hstop:∀ ex fr st,(∀ i,ex ≠ .exit i)→S st→P ex fr st) (st0:VSt) (h0:J [] s st0):
  gC C' c65.code [] (vargs 0 [.tok d,.ptr oP 0,.ptr oS 0,.ptr oV 0]) st0 P:=by
 obtain ⟨k1,k2,k3,k4⟩:=hbox _ _ _ h0
 have h1:(ByteArray.mk [c].toArray).size=1:=rfl
 have h1i:((1:Nat):Int)=1:=rfl
 have hidx:∀ (st:VSt) (r:List UInt8),r.length≤1000000→VSpecO C'.E 67 st [strV r,strV [c]] (.sc (.int .i64 (idxB c r))):=fun st r hr=>((index_p w n r c (by omega)).flat rfl rfl).env hE hO
 repeat' (first|(simp (disch:=first|omega|assumption|(refine @id ((_:Bool)=_) ?_;exact id (by with_unfolding_all rfl))|(exact Or.inl rfl)|(exact Or.inl trivial)|(exact okL_map _ (fun _=>rfl) _)|(simp only[VVlen]<;>omega)|fail) only[VV0,VV1,VV2,VV3,VV4,VV5,VV6,VV7,VV8,VV9,mkFnV,vargs,slotsL,opdsA,Nat.reduceEqDiff,Nat.reduceLT,Nat.reduceAdd,Nat.reduceBEq,Int.reduceAdd,Int.reduceSub,Int.reduceLT,Int.reduceLE,Int.reduceEq,Int.reduceNeg,↓reduceIte,reduceCtorEq,scL,scD,expand,List.replicate,c65,k2,h1,h1i])|(refine gC_drawW ?_)|(refine gI_dec (fun _=>?_) (fun _=>?_))|(refine gG_dec (fun _=>?_) (fun _=>?_))|(refine gPG_dec (fun _=>?_) (fun _=>?_))|(refine gI_var (fun _=>?_) (fun _=>?_))|(refine gG_var (fun _=>?_) (fun _=>?_))|(refine gPG_var (fun _=>?_) (fun _=>?_)))
 all_goals try (exfalso;omega)
 refine g_while (fun m fr st=>∃ dn r,m=r.length∧r.length≤1000000∧words c s=dn++words c r∧J dn r st∧fr= [(0,.tok d),(1,.ptr oP 0),(2,.ptr oS 0),(3,.ptr oV 0)]) s.length ?_ ⟨_,_,weak_akeep [0,1,2,3] rfl,[],s,rfl,hl,rfl,h0,rfl⟩ ?_
 ·rw[hr];unfold many;omega
 rintro _ fr1 st ⟨dn,r,rfl,hrl,hw,hJ,rfl⟩
 obtain ⟨k1,k2,k3,k4⟩:=hbox _ _ _ hJ
 rcases byte_split c r with hf|⟨x,r',rfl,hf⟩
 ·have hi:=idxB_free hf
  repeat' (first|(simp (disch:=first|omega|assumption|(refine @id ((_:Bool)=_) ?_;exact id (by with_unfolding_all rfl))|(exact Or.inl rfl)|(exact Or.inl trivial)|(exact okL_map _ (fun _=>rfl) _)|(simp only[VVlen]<;>omega)|fail) only[VV0,VV1,VV2,VV3,VV4,VV5,VV6,VV7,VV8,VV9,mkFnV,vargs,slotsL,opdsA,Nat.reduceEqDiff,Nat.reduceLT,Nat.reduceAdd,Nat.reduceBEq,Int.reduceAdd,Int.reduceSub,Int.reduceLT,Int.reduceLE,Int.reduceEq,Int.reduceNeg,↓reduceIte,reduceCtorEq,scL,scD,expand,List.replicate,c65l0,k1,k2,k3])|(refine gC_drawW ?_)|(refine gI_dec (fun _=>?_) (fun _=>?_))|(refine gG_dec (fun _=>?_) (fun _=>?_))|(refine gPG_dec (fun _=>?_) (fun _=>?_))|(refine gI_var (fun _=>?_) (fun _=>?_))|(refine gG_var (fun _=>?_) (fun _=>?_))|(refine gPG_var (fun _=>?_) (fun _=>?_)))
  refine callV_flat (hidx _ r hrl) ?_
  rw[hi]
  repeat' (first|(simp (disch:=first|omega|assumption|(refine @id ((_:Bool)=_) ?_;exact id (by with_unfolding_all rfl))|(exact Or.inl rfl)|(exact Or.inl trivial)|(exact okL_map _ (fun _=>rfl) _)|(simp only[VVlen]<;>omega)|fail) only[VV0,VV1,VV2,VV3,VV4,VV5,VV6,VV7,VV8,VV9,mkFnV,vargs,slotsL,opdsA,Nat.reduceEqDiff,Nat.reduceLT,Nat.reduceAdd,Nat.reduceBEq,Int.reduceAdd,Int.reduceSub,Int.reduceLT,Int.reduceLE,Int.reduceEq,Int.reduceNeg,↓reduceIte,reduceCtorEq,scL,scD,expand,List.replicate,k1,k2,k3])|(refine gC_drawW ?_)|(refine gI_dec (fun _=>?_) (fun _=>?_))|(refine gG_dec (fun _=>?_) (fun _=>?_))|(refine gPG_dec (fun _=>?_) (fun _=>?_))|(refine gI_var (fun _=>?_) (fun _=>?_))|(refine gG_var (fun _=>?_) (fun _=>?_))|(refine gPG_var (fun _=>?_) (fun _=>?_)))
  all_goals try (exfalso;omega)
  have hwr:=words_free hf
  refine hT _ _ _ (hround dn r r [] st _ hw hwr hJ (fun st' hJ'=>?_) (fun st' hS=>?_))
  ·repeat' (first|(simp (disch:=first|omega|assumption|(refine @id ((_:Bool)=_) ?_;exact id (by with_unfolding_all rfl))|(exact Or.inl rfl)|(exact Or.inl trivial)|(exact okL_map _ (fun _=>rfl) _)|(simp only[VVlen]<;>omega)|fail) only[VV0,VV1,VV2,VV3,VV4,VV5,VV6,VV7,VV8,VV9,mkFnV,vargs,slotsL,opdsA,Nat.reduceEqDiff,Nat.reduceLT,Nat.reduceAdd,Nat.reduceBEq,Int.reduceAdd,Int.reduceSub,Int.reduceLT,Int.reduceLE,Int.reduceEq,Int.reduceNeg,↓reduceIte,reduceCtorEq,scL,scD,expand,List.replicate])|(refine gC_drawW ?_)|(refine gI_dec (fun _=>?_) (fun _=>?_))|(refine gG_dec (fun _=>?_) (fun _=>?_))|(refine gPG_dec (fun _=>?_) (fun _=>?_))|(refine gI_var (fun _=>?_) (fun _=>?_))|(refine gG_var (fun _=>?_) (fun _=>?_))|(refine gPG_var (fun _=>?_) (fun _=>?_)))
   exact hend _ _ r (by rw[hw,hwr];exact hJ')
  ·repeat' (first|(simp (disch:=first|omega|assumption|(refine @id ((_:Bool)=_) ?_;exact id (by with_unfolding_all rfl))|(exact Or.inl rfl)|(exact Or.inl trivial)|(exact okL_map _ (fun _=>rfl) _)|(simp only[VVlen]<;>omega)|fail) only[VV0,VV1,VV2,VV3,VV4,VV5,VV6,VV7,VV8,VV9,mkFnV,vargs,slotsL,opdsA,Nat.reduceEqDiff,Nat.reduceLT,Nat.reduceAdd,Nat.reduceBEq,Int.reduceAdd,Int.reduceSub,Int.reduceLT,Int.reduceLE,Int.reduceEq,Int.reduceNeg,↓reduceIte,reduceCtorEq,scL,scD,expand,List.replicate])|(refine gC_drawW ?_)|(refine gI_dec (fun _=>?_) (fun _=>?_))|(refine gG_dec (fun _=>?_) (fun _=>?_))|(refine gPG_dec (fun _=>?_) (fun _=>?_))|(refine gI_var (fun _=>?_) (fun _=>?_))|(refine gG_var (fun _=>?_) (fun _=>?_))|(refine gPG_var (fun _=>?_) (fun _=>?_)))
   exact hstop _ _ _ (fun i h=>by cases h) hS
 ·have hi:=idxB_app r' hf
  have hlen:(x++c::r').length=x.length+r'.length+1:=by simp;omega
  have hwr:=words_app r' hf
  have e1:=slcS_hi (x++c::r') .i64 x.length (by omega) (by rw[hlen];omega)
  have e2:=slcS_lo (x++c::r') .i64 ((x.length:Int)+1) (by omega) (by rw[hlen];omega)
  rw[Int.toNat_natCast,List.take_left] at e1
  rw[show ((x.length:Int)+1).toNat=x.length+1 by omega,show (x++c::r').drop (x.length+1)=r' by rw[← List.drop_drop];simp] at e2
  repeat' (first|(simp (disch:=first|omega|assumption|(refine @id ((_:Bool)=_) ?_;exact id (by with_unfolding_all rfl))|(exact Or.inl rfl)|(exact Or.inl trivial)|(exact okL_map _ (fun _=>rfl) _)|(simp only[VVlen]<;>omega)|fail) only[VV0,VV1,VV2,VV3,VV4,VV5,VV6,VV7,VV8,VV9,mkFnV,vargs,slotsL,opdsA,Nat.reduceEqDiff,Nat.reduceLT,Nat.reduceAdd,Nat.reduceBEq,Int.reduceAdd,Int.reduceSub,Int.reduceLT,Int.reduceLE,Int.reduceEq,Int.reduceNeg,↓reduceIte,reduceCtorEq,scL,scD,expand,List.replicate,c65l0,k1,k2,k3])|(refine gC_drawW ?_)|(refine gI_dec (fun _=>?_) (fun _=>?_))|(refine gG_dec (fun _=>?_) (fun _=>?_))|(refine gPG_dec (fun _=>?_) (fun _=>?_))|(refine gI_var (fun _=>?_) (fun _=>?_))|(refine gG_var (fun _=>?_) (fun _=>?_))|(refine gPG_var (fun _=>?_) (fun _=>?_)))
  refine callV_flat (hidx _ _ hrl) ?_
  rw[hi]
  repeat' (first|(simp (disch:=first|omega|assumption|(refine @id ((_:Bool)=_) ?_;exact id (by with_unfolding_all rfl))|(exact Or.inl rfl)|(exact Or.inl trivial)|(exact okL_map _ (fun _=>rfl) _)|(simp only[VVlen]<;>omega)|fail) only[VV0,VV1,VV2,VV3,VV4,VV5,VV6,VV7,VV8,VV9,mkFnV,vargs,slotsL,opdsA,Nat.reduceEqDiff,Nat.reduceLT,Nat.reduceAdd,Nat.reduceBEq,Int.reduceAdd,Int.reduceSub,Int.reduceLT,Int.reduceLE,Int.reduceEq,Int.reduceNeg,↓reduceIte,reduceCtorEq,scL,scD,expand,List.replicate,k1,k2,k3,e1,Int.add_zero])|(refine gC_drawW ?_)|(refine gI_dec (fun _=>?_) (fun _=>?_))|(refine gG_dec (fun _=>?_) (fun _=>?_))|(refine gPG_dec (fun _=>?_) (fun _=>?_))|(refine gI_var (fun _=>?_) (fun _=>?_))|(refine gG_var (fun _=>?_) (fun _=>?_))|(refine gPG_var (fun _=>?_) (fun _=>?_)))
  all_goals try (exfalso;omega)
  refine hT _ _ _ (hround dn _ x (words c r') _ _ hw hwr hJ (fun st' hJ'=>?_) (fun st' hS=>?_))
  ·obtain ⟨k1,k2,k3,k4⟩:=hbox _ _ _ hJ'
   repeat' (first|(simp (disch:=first|omega|assumption|(refine @id ((_:Bool)=_) ?_;exact id (by with_unfolding_all rfl))|(exact Or.inl rfl)|(exact Or.inl trivial)|(exact okL_map _ (fun _=>rfl) _)|(simp only[VVlen]<;>omega)|fail) only[VV0,VV1,VV2,VV3,VV4,VV5,VV6,VV7,VV8,VV9,mkFnV,vargs,slotsL,opdsA,Nat.reduceEqDiff,Nat.reduceLT,Nat.reduceAdd,Nat.reduceBEq,Int.reduceAdd,Int.reduceSub,Int.reduceLT,Int.reduceLE,Int.reduceEq,Int.reduceNeg,↓reduceIte,reduceCtorEq,scL,scD,expand,List.replicate,k1,k2,k3,h1,h1i,e2])|(refine gC_drawW ?_)|(refine gI_dec (fun _=>?_) (fun _=>?_))|(refine gG_dec (fun _=>?_) (fun _=>?_))|(refine gPG_dec (fun _=>?_) (fun _=>?_))|(refine gI_var (fun _=>?_) (fun _=>?_))|(refine gG_var (fun _=>?_) (fun _=>?_))|(refine gPG_var (fun _=>?_) (fun _=>?_)))
   refine ⟨_,_,_,?_,.refl _ _,dn++ [x],r',rfl,by omega,?_,hset _ _ r' _ hJ',rfl⟩
   ·rw[hlen];omega
   ·rw[hw,hwr];simp
  ·repeat' (first|(simp (disch:=first|omega|assumption|(refine @id ((_:Bool)=_) ?_;exact id (by with_unfolding_all rfl))|(exact Or.inl rfl)|(exact Or.inl trivial)|(exact okL_map _ (fun _=>rfl) _)|(simp only[VVlen]<;>omega)|fail) only[VV0,VV1,VV2,VV3,VV4,VV5,VV6,VV7,VV8,VV9,mkFnV,vargs,slotsL,opdsA,Nat.reduceEqDiff,Nat.reduceLT,Nat.reduceAdd,Nat.reduceBEq,Int.reduceAdd,Int.reduceSub,Int.reduceLT,Int.reduceLE,Int.reduceEq,Int.reduceNeg,↓reduceIte,reduceCtorEq,scL,scD,expand,List.replicate])|(refine gC_drawW ?_)|(refine gI_dec (fun _=>?_) (fun _=>?_))|(refine gG_dec (fun _=>?_) (fun _=>?_))|(refine gPG_dec (fun _=>?_) (fun _=>?_))|(refine gI_var (fun _=>?_) (fun _=>?_))|(refine gG_var (fun _=>?_) (fun _=>?_))|(refine gPG_var (fun _=>?_) (fun _=>?_)))
   exact hstop _ _ _ (fun i h=>by cases h) hS
end Go.Proofs.YtgglaaldlegckaaDoor
namespace Go.Proofs.YtgglaaldlegckaaDoor
open Go Go.Itp
set_option maxRecDepth 100000
set_option maxHeartbeats 1000000
set_option linter.unusedSimpArgs false
set_option linter.unusedVariables false
def okW (p:Int × Int):Prop:=(1≤p.1∧p.1≤4000)∧0≤p.2∧p.2≤15
def okP (prev:Option Int) (p:Int × Int):Prop:=okW p∧prev ≠ some p.2
instance (prev:Option Int) (p:Int × Int):Decidable (okP prev p):=by unfold okP okW;exact inferInstance
def Canon:Option Int→List (Int × Int)→Prop
 |_,[]=>True
 |prev,p::R=>okP prev p∧Canon (some p.2) R
def expL (R:List (Int × Int)):List Int:=R.flatMap fun p=>List.replicate p.1.toNat p.2
def sumR (R:List (Int × Int)):Int:=(R.map (·.1)).sum
instance (p:Int × Int):Decidable (okW p):=by unfold okW;exact inferInstance
def expF (R:List (Int × Int)):List Int × Int:=if ∀ p ∈ R,okW p then (if sumR R≤4000 then (expL R,0) else ([],4)) else ([],8)
theorem dig_not {c:UInt8} (h:isDig c=true):c ≠ 32∧c ≠ 120:=by
 constructor<;>(rintro rfl;simp[isDig] at h)
theorem cut_txt1 {p:Int × Int} (h1:0≤p.1):cutB 120 (txt1 p)=(Lib.itoa p.1,Lib.itoa p.2,true):=by
 have hf:(120:UInt8) ∉ Lib.itoa p.1:=fun h=>(dig_not (itoa_dig h1 _ h)).2 rfl
 unfold cutB txt1
 rw[idxB_app _ hf,if_pos (by omega)]
 simp
theorem canon_ok:∀ {prev:Option Int} {R:List (Int × Int)},Canon prev R→∀ p ∈ R,okW p
 |_,[],_,p,h=>by simp at h
 |prev,q::R,hc,p,h=>by
  rcases List.mem_cons.1 h with rfl|h
  ·exact hc.1.1
  ·exact canon_ok hc.2 p h
def lastC:Option Int→List (Int × Int)→Option Int
 |prev,[]=>prev
 |_,p::R=>lastC (some p.2) R
theorem lastC_snoc:∀ (prev:Option Int) (R:List (Int × Int)) (p:Int × Int),lastC prev (R++ [p])=some p.2
 |_,[],_=>rfl
 |_,q::R,p=>lastC_snoc (some q.2) R p
theorem canon_snoc:∀ {prev:Option Int} {R:List (Int × Int)} {p:Int × Int},Canon prev R→okP (lastC prev R) p→Canon prev (R++ [p])
 |prev,[],p,_,h=>⟨h,trivial⟩
 |prev,q::R,p,hc,h=>⟨hc.1,canon_snoc hc.2 h⟩
theorem canon_front:∀ {prev:Option Int} {R:List (Int × Int)} {p:Int × Int},Canon prev (R++ [p])→Canon prev R∧okP (lastC prev R) p
 |prev,[],p,h=>⟨trivial,h.1⟩
 |prev,q::R,p,h=>⟨⟨h.1,(canon_front h.2).1⟩,(canon_front h.2).2⟩
theorem txt_join:∀ (R:List (Int × Int)),txt R=join 32 (R.map txt1):=by
 intro R
 induction h:R.length generalizing R with
 |zero=>rw[List.eq_nil_of_length_eq_zero h];rfl
 |succ m ih=>
  have hne:R ≠ []:=by rintro rfl;simp at h
  obtain ⟨Q,p,rfl⟩:∃ Q p,R=Q++ [p]:=⟨R.dropLast,R.getLast hne,(List.dropLast_concat_getLast hne).symm⟩
  have ih:=ih Q (by simpa using h)
  rw[txt_snoc,List.map_append,List.map_cons,List.map_nil]
  by_cases hQ:Q= []
  ·subst hQ;rfl
  ·rw[if_neg (by rw[txt_nil_iff];exact hQ),join_snoc _ _ (by simpa using hQ),← ih]
   simp
theorem words_txt {R:List (Int × Int)} (hne:R ≠ []) (hR:∀ p ∈ R,okW p):words 32 (txt R)=R.map txt1:=by
 rw[txt_join]
 refine words_join (by simpa using hne) fun x hx=>?_
 obtain ⟨p,hp,rfl⟩:=List.mem_map.1 hx
 obtain ⟨⟨a1,a2⟩,a3,a4⟩:=hR p hp
 intro h
 unfold txt1 at h
 rcases List.mem_append.1 h with h|h
 ·exact (dig_not (itoa_dig (by omega) _ h)).1 rfl
 ·rcases List.mem_cons.1 h with h|h
  ·simp at h
  ·exact (dig_not (itoa_dig a3 _ h)).1 rfl
theorem expL_snoc (R:List (Int × Int)) (p:Int × Int):expL (R++ [p])=expL R++List.replicate p.1.toNat p.2:=by simp[expL]
theorem rep_succ (n:Int) (x:Int) (h:0≤n):List.replicate (n+1).toNat x=List.replicate n.toNat x++ [x]:=by
 rw[show (n+1).toNat=n.toNat+1 by omega,List.replicate_succ']
theorem runs_facts {l:List Int} (h:chk l=0):∀ k,k≤l.length→expL (runsP l k)=l.take k∧Canon none (runsP l k)∧(0<k→lastC none (runsP l k)=some l[k - 1]!)∧(∀ p ∈ runsP l k,0≤p.1∧p.1≤k)
 |0,_=>⟨rfl,trivial,(fun h=>absurd h (Nat.lt_irrefl 0)),(fun p hp=>by simp[runsP] at hp)⟩
 |k+1,hk=>by
  obtain ⟨i1,i2,i3,i4⟩:=runs_facts h k (by omega)
  obtain ⟨hl4,hcol⟩:=chk_facts h
  have hck:=hcol k (by omega)
  have ht:l.take (k+1)=l.take k++ [l[k]!]:=by
   rw[List.take_succ_eq_append_getElem (show k<l.length by omega),getElem!_pos l k (by omega)]
  refine ⟨?_,?_,?_,runsP_cnt l (k+1)⟩
  ·rw[runsP,ht,← i1]
   split
   ·rename_i hc
    obtain ⟨Q,p,h1,h2⟩:=incLast_ne (runsP_ne l hc.1)
    have hp:=i4 p (by rw[h1];simp)
    have e:=i3 hc.1
    rw[h1,lastC_snoc] at e
    have e2:p.2=l[k]! :=by rw[hc.2];exact Option.some.inj e
    rw[h2,h1,expL_snoc,expL_snoc,rep_succ _ _ hp.1,List.append_assoc,e2]
   ·rw[expL_snoc];rfl
  ·rw[runsP]
   split
   ·rename_i hc
    obtain ⟨Q,p,h1,h2⟩:=incLast_ne (runsP_ne l hc.1)
    have hp:=i4 p (by rw[h1];simp)
    rw[h1] at i2
    obtain ⟨j1,j2⟩:=canon_front i2
    rw[h2]
    refine canon_snoc j1 ⟨⟨?_,j2.1.2⟩,j2.2⟩
    have:=j2.1.1
    simp only
    omega
   ·rename_i hc
    refine canon_snoc i2 ⟨⟨by simp only;omega,hck⟩,?_⟩
    by_cases h0:0<k
    ·rw[i3 h0]
     intro e
     exact hc ⟨h0,(Option.some.inj e).symm⟩
    ·have:k=0:=by omega
     subst this
     simp[runsP,lastC]
  ·intro _
   rw[runsP]
   split
   ·rename_i hc
    obtain ⟨Q,p,h1,h2⟩:=incLast_ne (runsP_ne l hc.1)
    have e:=i3 hc.1
    rw[h1,lastC_snoc] at e
    rw[h2,lastC_snoc,Nat.add_sub_cancel,hc.2]
    exact e
   ·rw[lastC_snoc,Nat.add_sub_cancel]
end Go.Proofs.YtgglaaldlegckaaDoor
namespace Go.Proofs.YtgglaaldlegckaaDoor
open Go Go.Itp
set_option maxRecDepth 100000
set_option maxHeartbeats 1000000
set_option linter.unusedSimpArgs false
set_option linter.unusedVariables false
theorem sumR_take (R:List (Int × Int)) (k:Nat) (hk:k<R.length):sumR (R.take (k+1))=sumR (R.take k)+R[k]!.1:=by
 rw[List.take_succ_eq_append_getElem hk,getElem!_pos R k hk]
 simp only[sumR,List.map_append,List.map_cons,List.map_nil,List.sum_append,List.sum_cons,List.sum_nil,Int.add_zero]
theorem sumR_cons (p:Int × Int) (R:List (Int × Int)):sumR (p::R)=p.1+sumR R:=by simp[sumR]
theorem sumR_nn:∀ {R:List (Int × Int)},(∀ p ∈ R,okW p)→0≤sumR R∧((expL R).length:Int)=sumR R
 | [],_=>by simp[sumR,expL]
 |p::R,h=>by
  obtain ⟨h1,h2⟩:=sumR_nn (R:=R) fun q hq=>h q (List.mem_cons_of_mem _ hq)
  have:=(h p (by simp)).1
  rw[sumR_cons]
  have e:expL (p::R)=List.replicate p.1.toNat p.2++expL R:=by simp[expL]
  rw[e,List.length_append,List.length_replicate]
  omega
theorem sumR_mono {R:List (Int × Int)} (h:∀ p ∈ R,okW p) (k:Nat):sumR (R.take k)≤sumR R:=by
 have e:sumR R=sumR (R.take k)+sumR (R.drop k):=by
  conv=>lhs;rw[← List.take_append_drop k R]
  simp only[sumR,List.map_append,List.sum_append]
 have:=(sumR_nn (R:=R.drop k) fun q hq=>h q (List.mem_of_mem_drop hq)).1
 omega
theorem expL_take (R:List (Int × Int)) (k:Nat) (hk:k<R.length):expL (R.take (k+1))=expL (R.take k)++List.replicate R[k]!.1.toNat R[k]!.2:=by
 rw[List.take_succ_eq_append_getElem hk,getElem!_pos R k hk,expL_snoc]
theorem rep_stTo (c:Int) (q:Nat):stTo (repF [c]) q q=List.replicate q c:=by
 rw[stTo_end]
 refine List.ext_getElem (by simp) fun i h1 h2=>?_
 simp[repF,Nat.mod_one]
theorem okW_iff {N c:Int}:okW (N,c)↔¬ N<1∧¬ 4000<N∧col c=true:=by
 unfold okW col
 simp only[Bool.and_eq_true,decide_eq_true_eq]
 omega
section
variable (w:World) (n:Nat)
theorem expand_p (s:Nat) (R:List (Int × Int)) (hl:R.length≤1000000):VSpec (EN w (n+4)) 28 [.sl s R.length (runC R)] (sl2 (expF R)) ⟨[],0,0⟩:=by
 refine vspec_g rfl rfl (fun _ _=>rfl) (Nat.le_of_ble_eq_true rfl) (oldVals w) retOK_fin rfl fun C hC hn=>?_
 have hcl:=runC_len R
 repeat' (first|(simp (disch:=first|omega|assumption|(refine @id ((_:Bool)=_) ?_;exact id (by with_unfolding_all rfl))|(exact Or.inl rfl)|(exact Or.inl trivial)|(exact okL_map _ (fun _=>rfl) _)|(simp only[VVlen]<;>omega)|fail) only[VV0,VV1,VV2,VV3,VV4,VV5,VV6,VV7,VV8,VV9,mkFnV,vargs,slotsL,opdsA,Nat.reduceEqDiff,Nat.reduceLT,Nat.reduceAdd,Nat.reduceBEq,Int.reduceAdd,Int.reduceSub,Int.reduceLT,Int.reduceLE,Int.reduceEq,Int.reduceNeg,↓reduceIte,reduceCtorEq,scL,scD,expand,List.replicate,c28])|(refine gC_drawW ?_)|(refine gI_dec (fun _=>?_) (fun _=>?_))|(refine gG_dec (fun _=>?_) (fun _=>?_))|(refine gPG_dec (fun _=>?_) (fun _=>?_))|(refine gI_var (fun _=>?_) (fun _=>?_))|(refine gG_var (fun _=>?_) (fun _=>?_))|(refine gPG_var (fun _=>?_) (fun _=>?_)))
 refine g_while (fun m fr st=>∃ k:Nat,m=R.length - k∧k≤R.length∧(∀ j,j<k→okW R[j]!)∧fr= [(0,.sl s R.length (runC R)),(9,.sl s R.length (runC R)),(10,.sc (.int .i64 R.length)),(11,.sc (.int .i64 k))]∧st=⟨[],0,0⟩) R.length ?_ ⟨_,_,.refl _ _,0,?_⟩ ?_
 ·rw[hC,callP_rounds];unfold many;omega
 ·exact ⟨by omega,by omega,(fun j hj=>absurd hj (Nat.not_lt_zero _)),rfl,rfl⟩
 ·rintro m fr st ⟨k,rfl,hk,hok,rfl,rfl⟩
  by_cases hlt:k<R.length
  ·have hag:=runC_agg R k hlt
   by_cases hw:okW R[k]!
   ·have hnx:∀ j,j<k+1→okW R[j]! :=fun j hj=>by
     rcases Nat.lt_succ_iff_lt_or_eq.1 hj with h|h
     ·exact hok j h
     ·subst h;exact hw
    generalize R[k]! =p at hag hw
    obtain ⟨N,c⟩:=p
    obtain ⟨w1,w2,w3⟩:=okW_iff.1 hw
    repeat' (first|(simp (disch:=first|omega|assumption|(refine @id ((_:Bool)=_) ?_;exact id (by with_unfolding_all rfl))|(exact Or.inl rfl)|(exact Or.inl trivial)|(exact okL_map _ (fun _=>rfl) _)|(simp only[VVlen]<;>omega)|fail) only[VV0,VV1,VV2,VV3,VV4,VV5,VV6,VV7,VV8,VV9,mkFnV,vargs,slotsL,opdsA,Nat.reduceEqDiff,Nat.reduceLT,Nat.reduceAdd,Nat.reduceBEq,Int.reduceAdd,Int.reduceSub,Int.reduceLT,Int.reduceLE,Int.reduceEq,Int.reduceNeg,↓reduceIte,reduceCtorEq,scL,scD,expand,List.replicate,c28l1,hag])|(refine gC_drawW ?_)|(refine gI_dec (fun _=>?_) (fun _=>?_))|(refine gG_dec (fun _=>?_) (fun _=>?_))|(refine gPG_dec (fun _=>?_) (fun _=>?_))|(refine gI_var (fun _=>?_) (fun _=>?_))|(refine gG_var (fun _=>?_) (fun _=>?_))|(refine gPG_var (fun _=>?_) (fun _=>?_)))
    all_goals try (exfalso;omega)
    refine callV_flat ((colour_p w (n+2) c).of hC rfl _ rfl) ?_
    rw[w3]
    repeat' (first|(simp (disch:=first|omega|assumption|(refine @id ((_:Bool)=_) ?_;exact id (by with_unfolding_all rfl))|(exact Or.inl rfl)|(exact Or.inl trivial)|(exact okL_map _ (fun _=>rfl) _)|(simp only[VVlen]<;>omega)|fail) only[VV0,VV1,VV2,VV3,VV4,VV5,VV6,VV7,VV8,VV9,mkFnV,vargs,slotsL,opdsA,Nat.reduceEqDiff,Nat.reduceLT,Nat.reduceAdd,Nat.reduceBEq,Int.reduceAdd,Int.reduceSub,Int.reduceLT,Int.reduceLE,Int.reduceEq,Int.reduceNeg,↓reduceIte,reduceCtorEq,scL,scD,expand,List.replicate])|(refine gC_drawW ?_)|(refine gI_dec (fun _=>?_) (fun _=>?_))|(refine gG_dec (fun _=>?_) (fun _=>?_))|(refine gPG_dec (fun _=>?_) (fun _=>?_))|(refine gI_var (fun _=>?_) (fun _=>?_))|(refine gG_var (fun _=>?_) (fun _=>?_))|(refine gPG_var (fun _=>?_) (fun _=>?_)))
    exact ⟨_,_,_,by omega,weak_to [] 0 hn rfl rfl rfl rfl,k+1,rfl,hlt,hnx,rfl,rfl⟩
   ·have e:expF R=([],8):=if_neg fun h=>hw (h _ (by rw[getElem!_pos R k hlt];exact List.getElem_mem hlt))
    rw[e]
    generalize R[k]! =p at hag hw
    obtain ⟨N,c⟩:=p
    by_cases w1:N<1
    ·repeat' (first|(simp (disch:=first|omega|assumption|(refine @id ((_:Bool)=_) ?_;exact id (by with_unfolding_all rfl))|(exact Or.inl rfl)|(exact Or.inl trivial)|(exact okL_map _ (fun _=>rfl) _)|(simp only[VVlen]<;>omega)|fail) only[VV0,VV1,VV2,VV3,VV4,VV5,VV6,VV7,VV8,VV9,mkFnV,vargs,slotsL,opdsA,Nat.reduceEqDiff,Nat.reduceLT,Nat.reduceAdd,Nat.reduceBEq,Int.reduceAdd,Int.reduceSub,Int.reduceLT,Int.reduceLE,Int.reduceEq,Int.reduceNeg,↓reduceIte,reduceCtorEq,scL,scD,expand,List.replicate,c28l1,hag])|(refine gC_drawW ?_)|(refine gI_dec (fun _=>?_) (fun _=>?_))|(refine gG_dec (fun _=>?_) (fun _=>?_))|(refine gPG_dec (fun _=>?_) (fun _=>?_))|(refine gI_var (fun _=>?_) (fun _=>?_))|(refine gG_var (fun _=>?_) (fun _=>?_))|(refine gPG_var (fun _=>?_) (fun _=>?_)))
     all_goals try (exfalso;omega)
     exact weak_finNil hn rfl
    by_cases w2:4000<N
    ·repeat' (first|(simp (disch:=first|omega|assumption|(refine @id ((_:Bool)=_) ?_;exact id (by with_unfolding_all rfl))|(exact Or.inl rfl)|(exact Or.inl trivial)|(exact okL_map _ (fun _=>rfl) _)|(simp only[VVlen]<;>omega)|fail) only[VV0,VV1,VV2,VV3,VV4,VV5,VV6,VV7,VV8,VV9,mkFnV,vargs,slotsL,opdsA,Nat.reduceEqDiff,Nat.reduceLT,Nat.reduceAdd,Nat.reduceBEq,Int.reduceAdd,Int.reduceSub,Int.reduceLT,Int.reduceLE,Int.reduceEq,Int.reduceNeg,↓reduceIte,reduceCtorEq,scL,scD,expand,List.replicate,c28l1,hag])|(refine gC_drawW ?_)|(refine gI_dec (fun _=>?_) (fun _=>?_))|(refine gG_dec (fun _=>?_) (fun _=>?_))|(refine gPG_dec (fun _=>?_) (fun _=>?_))|(refine gI_var (fun _=>?_) (fun _=>?_))|(refine gG_var (fun _=>?_) (fun _=>?_))|(refine gPG_var (fun _=>?_) (fun _=>?_)))
     all_goals try (exfalso;omega)
     exact weak_finNil hn rfl
    have w3:col c=false:=by
     cases h:col c
     ·rfl
     ·exact absurd (okW_iff.2 ⟨w1,w2,h⟩) hw
    repeat' (first|(simp (disch:=first|omega|assumption|(refine @id ((_:Bool)=_) ?_;exact id (by with_unfolding_all rfl))|(exact Or.inl rfl)|(exact Or.inl trivial)|(exact okL_map _ (fun _=>rfl) _)|(simp only[VVlen]<;>omega)|fail) only[VV0,VV1,VV2,VV3,VV4,VV5,VV6,VV7,VV8,VV9,mkFnV,vargs,slotsL,opdsA,Nat.reduceEqDiff,Nat.reduceLT,Nat.reduceAdd,Nat.reduceBEq,Int.reduceAdd,Int.reduceSub,Int.reduceLT,Int.reduceLE,Int.reduceEq,Int.reduceNeg,↓reduceIte,reduceCtorEq,scL,scD,expand,List.replicate,c28l1,hag])|(refine gC_drawW ?_)|(refine gI_dec (fun _=>?_) (fun _=>?_))|(refine gG_dec (fun _=>?_) (fun _=>?_))|(refine gPG_dec (fun _=>?_) (fun _=>?_))|(refine gI_var (fun _=>?_) (fun _=>?_))|(refine gG_var (fun _=>?_) (fun _=>?_))|(refine gPG_var (fun _=>?_) (fun _=>?_)))
    all_goals try (exfalso;omega)
    refine callV_flat ((colour_p w (n+2) c).of hC rfl _ rfl) ?_
    rw[w3]
    repeat' (first|(simp (disch:=first|omega|assumption|(refine @id ((_:Bool)=_) ?_;exact id (by with_unfolding_all rfl))|(exact Or.inl rfl)|(exact Or.inl trivial)|(exact okL_map _ (fun _=>rfl) _)|(simp only[VVlen]<;>omega)|fail) only[VV0,VV1,VV2,VV3,VV4,VV5,VV6,VV7,VV8,VV9,mkFnV,vargs,slotsL,opdsA,Nat.reduceEqDiff,Nat.reduceLT,Nat.reduceAdd,Nat.reduceBEq,Int.reduceAdd,Int.reduceSub,Int.reduceLT,Int.reduceLE,Int.reduceEq,Int.reduceNeg,↓reduceIte,reduceCtorEq,scL,scD,expand,List.replicate])|(refine gC_drawW ?_)|(refine gI_dec (fun _=>?_) (fun _=>?_))|(refine gG_dec (fun _=>?_) (fun _=>?_))|(refine gPG_dec (fun _=>?_) (fun _=>?_))|(refine gI_var (fun _=>?_) (fun _=>?_))|(refine gG_var (fun _=>?_) (fun _=>?_))|(refine gPG_var (fun _=>?_) (fun _=>?_)))
    exact weak_finNil hn rfl
  have:k=R.length:=by omega
  subst this
  have hall:∀ p ∈ R,okW p:=fun p hp=>by
   obtain ⟨i,hi,rfl⟩:=List.getElem_of_mem hp
   have:=hok i hi
   rw[getElem!_pos R i hi] at this
   exact this
  have e:expF R=if sumR R≤4000 then (expL R,0) else ([],4):=if_pos hall
  have htk:∀ k,0≤sumR (R.take k)∧((expL (R.take k)).length:Int)=sumR (R.take k):=fun k=>sumR_nn fun p hp=>hall p (List.mem_of_mem_take hp)
  rw[e]
  repeat' (first|(simp (disch:=first|omega|assumption|(refine @id ((_:Bool)=_) ?_;exact id (by with_unfolding_all rfl))|(exact Or.inl rfl)|(exact Or.inl trivial)|(exact okL_map _ (fun _=>rfl) _)|(simp only[VVlen]<;>omega)|fail) only[VV0,VV1,VV2,VV3,VV4,VV5,VV6,VV7,VV8,VV9,mkFnV,vargs,slotsL,opdsA,Nat.reduceEqDiff,Nat.reduceLT,Nat.reduceAdd,Nat.reduceBEq,Int.reduceAdd,Int.reduceSub,Int.reduceLT,Int.reduceLE,Int.reduceEq,Int.reduceNeg,↓reduceIte,reduceCtorEq,scL,scD,expand,List.replicate,c28l1])|(refine gC_drawW ?_)|(refine gI_dec (fun _=>?_) (fun _=>?_))|(refine gG_dec (fun _=>?_) (fun _=>?_))|(refine gPG_dec (fun _=>?_) (fun _=>?_))|(refine gI_var (fun _=>?_) (fun _=>?_))|(refine gG_var (fun _=>?_) (fun _=>?_))|(refine gPG_var (fun _=>?_) (fun _=>?_)))
  all_goals try (exfalso;omega)
  refine g_while (fun m fr st=>∃ k:Nat,m=R.length - k∧k≤R.length∧sumR (R.take k)≤4000∧fr= [(6,.gr 2 0 (expL (R.take k)).length),(30,.sl s R.length (runC R)),(31,.sc (.int .i64 R.length)),(32,.sc (.int .i64 k))]∧st=⟨[(0,.gro 3 1 false ((expL (R.take k)).map iD))],1,0⟩) R.length ?_ ⟨_,_,weak_nilSlot 6 3 1 rfl,0,?_⟩ ?_
  ·rw[hC,callP_rounds];unfold many;omega
  ·refine ⟨by omega,by omega,by simp[sumR],?_,?_⟩
   ·simp[expL,aput,Nat.beq,Nat.blt]
   ·simp[expL]
  ·rintro m fr st ⟨k,rfl,hk,hs4,rfl,rfl⟩
   by_cases hlt:k<R.length
   ·have hag:=runC_agg R k hlt
    have hw:=hall R[k]! (by rw[getElem!_pos R k hlt];exact List.getElem_mem hlt)
    have hst:=sumR_take R k hlt
    have hex:=expL_take R k hlt
    obtain ⟨t1,t2⟩:=htk k
    have hmo:=sumR_mono hall (k+1)
    generalize R[k]! =p at hag hw hst hex
    obtain ⟨N,c⟩:=p
    obtain ⟨w1,w2,w3⟩:=okW_iff.1 hw
    obtain ⟨q,rfl⟩:=Int.eq_ofNat_of_zero_le (show 0≤N by omega)
    simp only at hst hex
    by_cases hov:4000<sumR (R.take (k+1))
    ·have hno:¬ sumR R≤4000:=by omega
     rw[if_neg hno]
     repeat' (first|(simp (disch:=first|omega|assumption|(refine @id ((_:Bool)=_) ?_;exact id (by with_unfolding_all rfl))|(exact Or.inl rfl)|(exact Or.inl trivial)|(exact okL_map _ (fun _=>rfl) _)|(simp only[VVlen]<;>omega)|fail) only[VV0,VV1,VV2,VV3,VV4,VV5,VV6,VV7,VV8,VV9,mkFnV,vargs,slotsL,opdsA,Nat.reduceEqDiff,Nat.reduceLT,Nat.reduceAdd,Nat.reduceBEq,Int.reduceAdd,Int.reduceSub,Int.reduceLT,Int.reduceLE,Int.reduceEq,Int.reduceNeg,↓reduceIte,reduceCtorEq,scL,scD,expand,List.replicate,c28l0,hag])|(refine gC_drawW ?_)|(refine gI_dec (fun _=>?_) (fun _=>?_))|(refine gG_dec (fun _=>?_) (fun _=>?_))|(refine gPG_dec (fun _=>?_) (fun _=>?_))|(refine gI_var (fun _=>?_) (fun _=>?_))|(refine gG_var (fun _=>?_) (fun _=>?_))|(refine gPG_var (fun _=>?_) (fun _=>?_)))
     all_goals try (exfalso;omega)
     exact weak_finNil hn rfl
    ·have hrp:=repeat_p w n 0 [c] q (by simp) (by simp) (by omega) (by simp;omega)
     rw[List.length_singleton,Nat.one_mul,rep_stTo] at hrp
     repeat' (first|(simp (disch:=first|omega|assumption|(refine @id ((_:Bool)=_) ?_;exact id (by with_unfolding_all rfl))|(exact Or.inl rfl)|(exact Or.inl trivial)|(exact okL_map _ (fun _=>rfl) _)|(simp only[VVlen]<;>omega)|fail) only[VV0,VV1,VV2,VV3,VV4,VV5,VV6,VV7,VV8,VV9,mkFnV,vargs,slotsL,opdsA,Nat.reduceEqDiff,Nat.reduceLT,Nat.reduceAdd,Nat.reduceBEq,Int.reduceAdd,Int.reduceSub,Int.reduceLT,Int.reduceLE,Int.reduceEq,Int.reduceNeg,↓reduceIte,reduceCtorEq,scL,scD,expand,List.replicate,c28l0,hag])|(refine gC_drawW ?_)|(refine gI_dec (fun _=>?_) (fun _=>?_))|(refine gG_dec (fun _=>?_) (fun _=>?_))|(refine gPG_dec (fun _=>?_) (fun _=>?_))|(refine gI_var (fun _=>?_) (fun _=>?_))|(refine gG_var (fun _=>?_) (fun _=>?_))|(refine gPG_var (fun _=>?_) (fun _=>?_)))
     all_goals try (exfalso;omega)
     refine callV_of (by rw[hC];exact hrp) rfl rfl rfl ?_
     have hrl:((List.replicate q c).map iD).length=q*1:=by simp
     have hxl:((expL (R.take k)).map iD).length=(expL (R.take k)).length*1:=by simp
     have hro:okL ((List.replicate q c).map iD)=true:=okL_map _ (fun _=>rfl) _
     have hq1:(1:Int)≤q:=by omega
     repeat' (first|(simp (disch:=first|omega|assumption|(refine @id ((_:Bool)=_) ?_;exact id (by with_unfolding_all rfl))|(exact Or.inl rfl)|(exact Or.inl trivial)|(exact okL_map _ (fun _=>rfl) _)|(simp only[VVlen]<;>omega)|fail) only[VV0,VV1,VV2,VV3,VV4,VV5,VV6,VV7,VV8,VV9,mkFnV,vargs,slotsL,opdsA,Nat.reduceEqDiff,Nat.reduceLT,Nat.reduceAdd,Nat.reduceBEq,Int.reduceAdd,Int.reduceSub,Int.reduceLT,Int.reduceLE,Int.reduceEq,Int.reduceNeg,↓reduceIte,reduceCtorEq,scL,scD,expand,List.replicate,vsh,vshL,shH,shO,fzSL,fzS,hrl,hro])|(refine gC_drawW ?_)|(refine gI_dec (fun _=>?_) (fun _=>?_))|(refine gG_dec (fun _=>?_) (fun _=>?_))|(refine gPG_dec (fun _=>?_) (fun _=>?_))|(refine gI_var (fun _=>?_) (fun _=>?_))|(refine gG_var (fun _=>?_) (fun _=>?_))|(refine gPG_var (fun _=>?_) (fun _=>?_)))
     rw[Int.toNat_natCast] at hex
     refine ⟨_,_,_,by omega,weak_to [(4,0)] 1 hn rfl rfl rfl rfl,k+1,rfl,hlt,by omega,?_,?_⟩
     ·rw[hex];simp[renF,vren,vrenL,aget_cons]
     ·rw[hex];simp[renH,aget_cons,renO]
   ·have:k=R.length:=by omega
    subst this
    rw[List.take_length] at hs4 ⊢
    rw[if_pos hs4]
    repeat' (first|(simp (disch:=first|omega|assumption|(refine @id ((_:Bool)=_) ?_;exact id (by with_unfolding_all rfl))|(exact Or.inl rfl)|(exact Or.inl trivial)|(exact okL_map _ (fun _=>rfl) _)|(simp only[VVlen]<;>omega)|fail) only[VV0,VV1,VV2,VV3,VV4,VV5,VV6,VV7,VV8,VV9,mkFnV,vargs,slotsL,opdsA,Nat.reduceEqDiff,Nat.reduceLT,Nat.reduceAdd,Nat.reduceBEq,Int.reduceAdd,Int.reduceSub,Int.reduceLT,Int.reduceLE,Int.reduceEq,Int.reduceNeg,↓reduceIte,reduceCtorEq,scL,scD,expand,List.replicate,c28l0])|(refine gC_drawW ?_)|(refine gI_dec (fun _=>?_) (fun _=>?_))|(refine gG_dec (fun _=>?_) (fun _=>?_))|(refine gPG_dec (fun _=>?_) (fun _=>?_))|(refine gI_var (fun _=>?_) (fun _=>?_))|(refine gG_var (fun _=>?_) (fun _=>?_))|(refine gPG_var (fun _=>?_) (fun _=>?_)))
    all_goals try (exfalso;omega)
    exact weak_fin (snap_ints rfl) rfl (.inl (by decide)) hn rfl
end
end Go.Proofs.YtgglaaldlegckaaDoor
namespace Go.Proofs.YtgglaaldlegckaaDoor
open Go Go.Itp
set_option maxRecDepth 100000
set_option maxHeartbeats 1000000
set_option linter.unusedSimpArgs false
set_option linter.unusedVariables false
section
variable (w:World) (n:Nat)
end
end Go.Proofs.YtgglaaldlegckaaDoor
namespace Go.Proofs.YtgglaaldlegckaaDoor
open Go Go.Itp
set_option maxRecDepth 100000
set_option maxHeartbeats 1000000
set_option linter.unusedSimpArgs false
set_option linter.unusedVariables false
section
variable (w:World) (n:Nat)
end
end Go.Proofs.YtgglaaldlegckaaDoor
namespace Go.Proofs.YtgglaaldlegckaaDoor
open Go Go.Itp
set_option maxRecDepth 100000
set_option maxHeartbeats 2000000
set_option linter.unusedSimpArgs false
set_option linter.unusedVariables false
section
variable (w:World) (n:Nat)
end
end Go.Proofs.YtgglaaldlegckaaDoor
namespace Go.Proofs.YtgglaaldlegckaaDoor
open Go Go.Itp
set_option maxRecDepth 100000
set_option maxHeartbeats 2000000
set_option linter.unusedSimpArgs false
set_option linter.unusedVariables false
def numA (l:List UInt8):Option Int:=match Lib.atoiAll l with
 | .ok v=>some v
 |_=>none
theorem numA_ok {l:List UInt8} {v:Int} (h:numA l=some v):Lib.atoiAll l= .ok v:=by
 unfold numA at h
 split at h
 ·rename_i u hu;cases h;exact hu
 ·cases h
theorem numA_none {l:List UInt8} (h:numA l=none) (v:Int):Lib.atoiAll l ≠ .ok v:=by
 intro e
 unfold numA at h
 rw[e] at h
 cases h
def readW (x:List UInt8):Option (Int × Int):=if (cutB 120 x).2.2=true then (numA (cutB 120 x).1).bind fun n=>(numA (cutB 120 x).2.1).map fun c=>(n,c) else none
def parseA:List (List UInt8)→Option (List (Int × Int))
 | []=>some []
 |x::ws=>(readW x).bind fun p=>(parseA ws).map (p::·)
theorem parseA_append:∀ {a:List (List UInt8)} {Q:List (Int × Int)} (ws:List (List UInt8)),parseA a=some Q→parseA (a++ws)=(parseA ws).map (Q++·)
 | [],Q,ws,h=>by
  simp only[parseA,Option.some.injEq] at h;subst h
  simp
 |x::a,Q,ws,h=>by
  simp only[parseA,Option.bind_eq_some_iff,Option.map_eq_some_iff] at h
  obtain ⟨p,h1,R,h2,rfl⟩:=h
  simp only[List.cons_append,parseA,h1,Option.bind_some,parseA_append ws h2]
  cases parseA ws<;>rfl
theorem parseA_len:∀ {a:List (List UInt8)} {Q:List (Int × Int)},parseA a=some Q→Q.length=a.length
 | [],Q,h=>by simp only[parseA,Option.some.injEq] at h;subst h;rfl
 |x::a,Q,h=>by
  simp only[parseA,Option.bind_eq_some_iff,Option.map_eq_some_iff] at h
  obtain ⟨p,h1,R,h2,rfl⟩:=h
  simp[parseA_len h2]
theorem cut_len (x:List UInt8):(cutB 120 x).1.length≤x.length∧(cutB 120 x).2.1.length≤x.length:=by
 unfold cutB
 split
 ·simp;omega
 ·simp
def pparseF (s:List UInt8):List Int × Int:=
 if s= [] then ([],0) else match parseA (words 32 s) with
  |none=>([],12)
  |some R=>if (expF R).2 ≠ 0 then ([],12) else if (textF (expF R).1).1=s then ((expF R).1,0) else ([],12)
abbrev baseV (g:Nat) (Q:List (Int × Int)) (r:List UInt8) (c:Int):VHp:=
 [(g,.gro 58 2 false (runC Q)),(5,.box 3 1 [.sc (.int .i64 0)]),(4,sBox [32]),(3,sBox r),(2,.box 24 1 [.gr 2 g Q.length]),(1,.box 25 1 [.sc (.int .i64 c)]),(0,.box 22 1 [.sc (.slice none 0 0)])]
theorem snapR (g t:Nat) (Q:List (Int × Int)) (R:VHp):snapL ((g,.gro t 2 false (runC Q))::R) [.gr 2 g Q.length]=some [.sl 2 Q.length (runC Q)]:=by
 have h:aget ((g,.gro t 2 false (runC Q))::R) g=some (.gro t 2 false (runC Q)):=by rw[aget_cons,if_pos rfl]
 simp only[snapL,snap_runs Q h,Option.bind_some,Option.map_some]
def rngA:AC:=
 (.ops [⟨(some 5),none,.mov (.tmp 21)⟩] [2,3,4,5])
def rngB:AC:=
 (.block 1
    (.seq (.ops [⟨(some 23),none,.mov (.tmp 5)⟩,
      ⟨(some 24),none,.callF 48 [(.tmp 23),(.const (.string ⟨#[120]⟩))]⟩,
      ⟨(some 22),none,.mov (.tmp 24)⟩,
      ⟨(some 25),none,.ext (.tmp 22) 0⟩,
      ⟨(some 26),none,.ext (.tmp 22) 1⟩,
      ⟨(some 27),none,.ext (.tmp 22) 2⟩,
      ⟨(some 6),none,.mov (.tmp 25)⟩,
      ⟨(some 7),none,.mov (.tmp 26)⟩,
      ⟨(some 8),none,.mov (.tmp 27)⟩] [2,3,4,6,7,8])
    (.seq (.ops [⟨(some 29),none,.mov (.tmp 6)⟩,
      ⟨(some 30),none,.callF 49 [(.tmp 29)]⟩,
      ⟨(some 28),none,.mov (.tmp 30)⟩,
      ⟨(some 31),none,.ext (.tmp 28) 0⟩,
      ⟨(some 32),none,.ext (.tmp 28) 1⟩,
      ⟨(some 9),none,.mov (.tmp 31)⟩,
      ⟨(some 10),none,.mov (.tmp 32)⟩] [2,3,4,7,8,9,10])
    (.seq (.ops [⟨(some 34),none,.mov (.tmp 7)⟩,
      ⟨(some 35),none,.callF 49 [(.tmp 34)]⟩,
      ⟨(some 33),none,.mov (.tmp 35)⟩,
      ⟨(some 36),none,.ext (.tmp 33) 0⟩,
      ⟨(some 37),none,.ext (.tmp 33) 1⟩,
      ⟨(some 11),none,.mov (.tmp 36)⟩,
      ⟨(some 12),none,.mov (.tmp 37)⟩] [2,3,4,8,9,10,11,12])
    (.seq (.seq (.ops [⟨(some 38),none,.mov (.tmp 8)⟩,
      ⟨(some 39),none,.un .not (.tmp 38)⟩,
      ⟨(some 40),none,.mov (.tmp 39)⟩,
      ⟨(some 41),(some (40,false)),.mov (.tmp 10)⟩,
      ⟨(some 42),(some (40,false)),.eqIf true true [2,3,5,6,12,21,25,97,105,108,115,155,156,158,159] (.tmp 41) (.const .nilIface)⟩,
      ⟨(some 43),none,.pick (.tmp 40) (.const (.bool true)) (.tmp 42)⟩,
      ⟨(some 44),none,.mov (.tmp 43)⟩,
      ⟨(some 45),(some (44,false)),.mov (.tmp 12)⟩,
      ⟨(some 46),(some (44,false)),.eqIf true true [2,3,5,6,12,21,25,97,105,108,115,155,156,158,159] (.tmp 45) (.const .nilIface)⟩,
      ⟨(some 47),none,.pick (.tmp 44) (.const (.bool true)) (.tmp 46)⟩] [2,3,4,9,11,47])
    (.cond (.tmp 47)
     (.seq (.ops [⟨none,none,.store 1 (.tmp 2) (.const (.slice none 0 0))⟩,
       ⟨none,none,.store 1 (.tmp 3) (.const (.int .i64 12))⟩] [])
     (.ret))
     (.skip)))
    (.ops [⟨(some 48),none,.load none (.tmp 4)⟩,
      ⟨(some 49),none,.mov (.tmp 9)⟩,
      ⟨(some 50),none,.mov (.tmp 11)⟩,
      ⟨(some 51),none,.build [(.int .i64 0),(.int .i64 0)] [(0,1,(.tmp 49)),(1,1,(.tmp 50))]⟩,
      ⟨(some 52),none,.mkRow 58 2 1 [(.int .i64 0),(.int .i64 0)] [(0,2,(.tmp 51))]⟩,
      ⟨(some 53),none,.app 58 2 16 (.tmp 48) (.tmp 52)⟩,
      ⟨none,none,.store 1 (.tmp 4) (.tmp 53)⟩] []))))))
section
variable (w:World) (n:Nat)
theorem atoi_any {C:Ctx} {st:VSt} {Q:V→VSt→Prop} (hC:C.E=EN w (n+1)) (l:List UInt8) (hl:l.length≤1000000) (hes:(errO Tryd.prog w "strconv.ErrSyntax").isSome=true) (her:(errO Tryd.prog w "strconv.ErrRange").isSome=true)
  (h1:∀ v,numA l=some v→Q (.tup [.sc (.int .i64 v),.sc .nilIface]) st)
  (h2:numA l=none→∀ (k:Int) (cs:List V),Q (.tup [.sc (.int .i64 k),.ifc 118 (.ptr st.next 0)]) ⟨(st.next,.box 132 1 cs)::st.own,st.next+1,st.ro⟩):CallV C 49 [strV l] st Q:=by
 have hs:(ByteArray.mk l.toArray).size≤281474976710656:=by rw[mk_size];omega
 cases hu:numA l with
 |some v=>exact callV_flat (by rw[hC];exact atoi_s w n _ ⟨l.toArray⟩ v hs (numA_ok hu)) (h1 v hu)
 |none=>
  obtain ⟨k,cs,sp⟩:=atoi_f w n ⟨l.toArray⟩ hs hes her (numA_none hu)
  refine callV_of (by rw[hC];exact sp) rfl rfl rfl ?_
  obtain ⟨H,nx,ro⟩:=st
  have:=h2 hu k (vshL nx (cs.map V.sc))
  simp only[vsh,vshL,shH,shO,fzSL,fzS,frozA_none,Nat.add_zero,Nat.zero_add,List.nil_append,List.cons_append] at this ⊢
  exact this
theorem parse_round {C:Ctx} (hC:C.E=EN w (n+7)) (hes:(errO Tryd.prog w "strconv.ErrSyntax").isSome=true) (her:(errO Tryd.prog w "strconv.ErrRange").isSome=true) (fr0:V) (x r:List UInt8) (hx:x.length≤100000) (g nx:Nat) (Q:List (Int × Int)) (hQl:Q.length≤200000)
  (g1:g ≠ 0) (g2:g ≠ 1) (g3:g ≠ 2) (g4:g ≠ 3) (g5:g ≠ 4) (g6:g ≠ 5) (g7:g ≠ 7) (g8:g<nx) (g9:7<nx) (Q2:V→VSt→Prop)
  (hgo:∀ p,readW x=some p→Q2 (.sc (.bool true)) ⟨(7,recO 0)::baseV (nx+1) (Q++ [p]) r 0,nx+2,0⟩)
  (hstop:readW x=none→∀ nx',nx≤nx'→Q2 (.sc (.bool false)) ⟨(7,recO (codeOf .ret))::baseV g Q r 12,nx',0⟩):
  RoundV C.E rngA rngB [(0,fr0),(2,.ptr 0 0),(3,.ptr 1 0),(4,.ptr 2 0)] [21] 7 [strV x] ⟨(7,recO 0)::baseV g Q r 0,nx,0⟩ Q2:=by
 have b1:¬ (7=nx):=by omega
 have b2:¬ (g=nx):=by omega
 have b3:¬ (5=nx):=by omega
 have b4:¬ (4=nx):=by omega
 have b5:¬ (3=nx):=by omega
 have b6:¬ (2=nx):=by omega
 have b7:¬ (1=nx):=by omega
 have b8:¬ (0=nx):=by omega
 have f1:=Ne.symm g1
 have f2:=Ne.symm g2
 have f3:=Ne.symm g3
 have f4:=Ne.symm g4
 have f5:=Ne.symm g5
 have f6:=Ne.symm g6
 have f7:=Ne.symm g7
 have hcl:=runC_len Q
 obtain ⟨hc1,hc2⟩:=cut_len x
 have hrd:readW x=if (cutB 120 x).2.2=true then (numA (cutB 120 x).1).bind fun n=>(numA (cutB 120 x).2.1).map fun c=>(n,c) else none:=rfl
 have hcut:∀ st,VSpecO C.E 48 st [strV x,strV [120]] (.tup [strV (cutB 120 x).1,strV (cutB 120 x).2.1,.sc (.bool (cutB 120 x).2.2)]):=fun st=>(cut_p w (n+2) x 120 (by omega)).of hC rfl st rfl
 generalize cutB 120 x=X at*
 obtain ⟨u,v,is⟩:=X
 simp only at hc1 hc2 hrd hcut
 refine ⟨Nat.zero_le _,rfl,g9,_,rfl,fun C4 h4c h4n=>?_⟩
 have hcs:C4.E=EN w (n+6+1):=h4c.trans hC
 repeat' (first|(simp (disch:=first|omega|assumption|(refine @id ((_:Bool)=_) ?_;exact id (by with_unfolding_all rfl))|(exact Or.inl rfl)|(exact Or.inl trivial)|(exact okL_map _ (fun _=>rfl) _)|(simp only[VVlen]<;>omega)|fail) only[VV0,VV1,VV2,VV3,VV4,VV5,VV6,VV7,VV8,VV9,mkFnV,vargs,slotsL,opdsA,Nat.reduceEqDiff,Nat.reduceLT,Nat.reduceAdd,Nat.reduceBEq,Int.reduceAdd,Int.reduceSub,Int.reduceLT,Int.reduceLE,Int.reduceEq,Int.reduceNeg,↓reduceIte,reduceCtorEq,scL,scD,expand,List.replicate,rngA,eqIf_ifc,eqIf_nil,eqIfA_nn,b1,b2,b3,b4,b5,b6,b7,b8,g1,g2,g3,g4,g5,g6,g7,f1,f2,f3,f4,f5,f6,f7])|(refine gC_drawW ?_)|(refine gI_dec (fun _=>?_) (fun _=>?_))|(refine gG_dec (fun _=>?_) (fun _=>?_))|(refine gPG_dec (fun _=>?_) (fun _=>?_))|(refine gI_var (fun _=>?_) (fun _=>?_))|(refine gG_var (fun _=>?_) (fun _=>?_))|(refine gPG_var (fun _=>?_) (fun _=>?_)))
 refine ⟨trivial,Nat.zero_le _,trivial,?_⟩
 repeat' (first|(simp (disch:=first|omega|assumption|(refine @id ((_:Bool)=_) ?_;exact id (by with_unfolding_all rfl))|(exact Or.inl rfl)|(exact Or.inl trivial)|(exact okL_map _ (fun _=>rfl) _)|(simp only[VVlen]<;>omega)|fail) only[VV0,VV1,VV2,VV3,VV4,VV5,VV6,VV7,VV8,VV9,mkFnV,vargs,slotsL,opdsA,Nat.reduceEqDiff,Nat.reduceLT,Nat.reduceAdd,Nat.reduceBEq,Int.reduceAdd,Int.reduceSub,Int.reduceLT,Int.reduceLE,Int.reduceEq,Int.reduceNeg,↓reduceIte,reduceCtorEq,scL,scD,expand,List.replicate,rngB,eqIf_ifc,eqIf_nil,eqIfA_nn,b1,b2,b3,b4,b5,b6,b7,b8,g1,g2,g3,g4,g5,g6,g7,f1,f2,f3,f4,f5,f6,f7])|(refine gC_drawW ?_)|(refine gI_dec (fun _=>?_) (fun _=>?_))|(refine gG_dec (fun _=>?_) (fun _=>?_))|(refine gPG_dec (fun _=>?_) (fun _=>?_))|(refine gI_var (fun _=>?_) (fun _=>?_))|(refine gG_var (fun _=>?_) (fun _=>?_))|(refine gPG_var (fun _=>?_) (fun _=>?_)))
 refine callV_flat (by rw[h4c];exact hcut _) ?_
 repeat' (first|(simp (disch:=first|omega|assumption|(refine @id ((_:Bool)=_) ?_;exact id (by with_unfolding_all rfl))|(exact Or.inl rfl)|(exact Or.inl trivial)|(exact okL_map _ (fun _=>rfl) _)|(simp only[VVlen]<;>omega)|fail) only[VV0,VV1,VV2,VV3,VV4,VV5,VV6,VV7,VV8,VV9,mkFnV,vargs,slotsL,opdsA,Nat.reduceEqDiff,Nat.reduceLT,Nat.reduceAdd,Nat.reduceBEq,Int.reduceAdd,Int.reduceSub,Int.reduceLT,Int.reduceLE,Int.reduceEq,Int.reduceNeg,↓reduceIte,reduceCtorEq,scL,scD,expand,List.replicate,eqIf_ifc,eqIf_nil,eqIfA_nn,b1,b2,b3,b4,b5,b6,b7,b8,g1,g2,g3,g4,g5,g6,g7,f1,f2,f3,f4,f5,f6,f7])|(refine gC_drawW ?_)|(refine gI_dec (fun _=>?_) (fun _=>?_))|(refine gG_dec (fun _=>?_) (fun _=>?_))|(refine gPG_dec (fun _=>?_) (fun _=>?_))|(refine gI_var (fun _=>?_) (fun _=>?_))|(refine gG_var (fun _=>?_) (fun _=>?_))|(refine gPG_var (fun _=>?_) (fun _=>?_)))
 have k1:¬ (7=nx+1):=by omega
 have k2:¬ (g=nx+1):=by omega
 have k3:¬ (5=nx+1):=by omega
 have k4:¬ (4=nx+1):=by omega
 have k5:¬ (3=nx+1):=by omega
 have k6:¬ (2=nx+1):=by omega
 have k7:¬ (1=nx+1):=by omega
 have k8:¬ (0=nx+1):=by omega
 by_cases his:is=true
 case neg=>
  rw[Bool.not_eq_true] at his
  refine atoi_any w (n+6) hcs u (by omega) hes her (fun vu hu=>?_) (fun hu ku cu=>?_)
  ·repeat' (first|(simp (disch:=first|omega|assumption|(refine @id ((_:Bool)=_) ?_;exact id (by with_unfolding_all rfl))|(exact Or.inl rfl)|(exact Or.inl trivial)|(exact okL_map _ (fun _=>rfl) _)|(simp only[VVlen]<;>omega)|fail) only[VV0,VV1,VV2,VV3,VV4,VV5,VV6,VV7,VV8,VV9,mkFnV,vargs,slotsL,opdsA,Nat.reduceEqDiff,Nat.reduceLT,Nat.reduceAdd,Nat.reduceBEq,Int.reduceAdd,Int.reduceSub,Int.reduceLT,Int.reduceLE,Int.reduceEq,Int.reduceNeg,↓reduceIte,reduceCtorEq,scL,scD,expand,List.replicate,baseV,eqIf_ifc,eqIf_nil,eqIfA_nn,b1,b2,b3,b4,b5,b6,b7,b8,g1,g2,g3,g4,g5,g6,g7,f1,f2,f3,f4,f5,f6,f7,k1,k2,k3,k4,k5,k6,k7,k8,his])|(refine gC_drawW ?_)|(refine gI_dec (fun _=>?_) (fun _=>?_))|(refine gG_dec (fun _=>?_) (fun _=>?_))|(refine gPG_dec (fun _=>?_) (fun _=>?_))|(refine gI_var (fun _=>?_) (fun _=>?_))|(refine gG_var (fun _=>?_) (fun _=>?_))|(refine gPG_var (fun _=>?_) (fun _=>?_)))
   refine atoi_any w (n+6) hcs v (by omega) hes her (fun vv hv=>?_) (fun hv kv cv=>?_)
   ·repeat' (first|(simp (disch:=first|omega|assumption|(refine @id ((_:Bool)=_) ?_;exact id (by with_unfolding_all rfl))|(exact Or.inl rfl)|(exact Or.inl trivial)|(exact okL_map _ (fun _=>rfl) _)|(simp only[VVlen]<;>omega)|fail) only[VV0,VV1,VV2,VV3,VV4,VV5,VV6,VV7,VV8,VV9,mkFnV,vargs,slotsL,opdsA,Nat.reduceEqDiff,Nat.reduceLT,Nat.reduceAdd,Nat.reduceBEq,Int.reduceAdd,Int.reduceSub,Int.reduceLT,Int.reduceLE,Int.reduceEq,Int.reduceNeg,↓reduceIte,reduceCtorEq,scL,scD,expand,List.replicate,baseV,eqIf_ifc,eqIf_nil,eqIfA_nn,b1,b2,b3,b4,b5,b6,b7,b8,g1,g2,g3,g4,g5,g6,g7,f1,f2,f3,f4,f5,f6,f7,k1,k2,k3,k4,k5,k6,k7,k8,his])|(refine gC_drawW ?_)|(refine gI_dec (fun _=>?_) (fun _=>?_))|(refine gG_dec (fun _=>?_) (fun _=>?_))|(refine gPG_dec (fun _=>?_) (fun _=>?_))|(refine gI_var (fun _=>?_) (fun _=>?_))|(refine gG_var (fun _=>?_) (fun _=>?_))|(refine gPG_var (fun _=>?_) (fun _=>?_)))
    exact ⟨Nat.zero_le _,trivial,_,.refl _ _,hstop (by rw[hrd,if_neg (by rw[his];exact Bool.false_ne_true)]) _ (by omega)⟩
   ·repeat' (first|(simp (disch:=first|omega|assumption|(refine @id ((_:Bool)=_) ?_;exact id (by with_unfolding_all rfl))|(exact Or.inl rfl)|(exact Or.inl trivial)|(exact okL_map _ (fun _=>rfl) _)|(simp only[VVlen]<;>omega)|fail) only[VV0,VV1,VV2,VV3,VV4,VV5,VV6,VV7,VV8,VV9,mkFnV,vargs,slotsL,opdsA,Nat.reduceEqDiff,Nat.reduceLT,Nat.reduceAdd,Nat.reduceBEq,Int.reduceAdd,Int.reduceSub,Int.reduceLT,Int.reduceLE,Int.reduceEq,Int.reduceNeg,↓reduceIte,reduceCtorEq,scL,scD,expand,List.replicate,baseV,eqIf_ifc,eqIf_nil,eqIfA_nn,b1,b2,b3,b4,b5,b6,b7,b8,g1,g2,g3,g4,g5,g6,g7,f1,f2,f3,f4,f5,f6,f7,k1,k2,k3,k4,k5,k6,k7,k8,his])|(refine gC_drawW ?_)|(refine gI_dec (fun _=>?_) (fun _=>?_))|(refine gG_dec (fun _=>?_) (fun _=>?_))|(refine gPG_dec (fun _=>?_) (fun _=>?_))|(refine gI_var (fun _=>?_) (fun _=>?_))|(refine gG_var (fun _=>?_) (fun _=>?_))|(refine gPG_var (fun _=>?_) (fun _=>?_)))
    exact ⟨Nat.zero_le _,trivial,_,(weak_front (aget_fresh _ _ (by simp;omega))).trans (.refl _ _),hstop (by rw[hrd,if_neg (by rw[his];exact Bool.false_ne_true)]) _ (by omega)⟩
  ·repeat' (first|(simp (disch:=first|omega|assumption|(refine @id ((_:Bool)=_) ?_;exact id (by with_unfolding_all rfl))|(exact Or.inl rfl)|(exact Or.inl trivial)|(exact okL_map _ (fun _=>rfl) _)|(simp only[VVlen]<;>omega)|fail) only[VV0,VV1,VV2,VV3,VV4,VV5,VV6,VV7,VV8,VV9,mkFnV,vargs,slotsL,opdsA,Nat.reduceEqDiff,Nat.reduceLT,Nat.reduceAdd,Nat.reduceBEq,Int.reduceAdd,Int.reduceSub,Int.reduceLT,Int.reduceLE,Int.reduceEq,Int.reduceNeg,↓reduceIte,reduceCtorEq,scL,scD,expand,List.replicate,baseV,eqIf_ifc,eqIf_nil,eqIfA_nn,b1,b2,b3,b4,b5,b6,b7,b8,g1,g2,g3,g4,g5,g6,g7,f1,f2,f3,f4,f5,f6,f7,k1,k2,k3,k4,k5,k6,k7,k8,his])|(refine gC_drawW ?_)|(refine gI_dec (fun _=>?_) (fun _=>?_))|(refine gG_dec (fun _=>?_) (fun _=>?_))|(refine gPG_dec (fun _=>?_) (fun _=>?_))|(refine gI_var (fun _=>?_) (fun _=>?_))|(refine gG_var (fun _=>?_) (fun _=>?_))|(refine gPG_var (fun _=>?_) (fun _=>?_)))
   refine atoi_any w (n+6) hcs v (by omega) hes her (fun vv hv=>?_) (fun hv kv cv=>?_)
   ·repeat' (first|(simp (disch:=first|omega|assumption|(refine @id ((_:Bool)=_) ?_;exact id (by with_unfolding_all rfl))|(exact Or.inl rfl)|(exact Or.inl trivial)|(exact okL_map _ (fun _=>rfl) _)|(simp only[VVlen]<;>omega)|fail) only[VV0,VV1,VV2,VV3,VV4,VV5,VV6,VV7,VV8,VV9,mkFnV,vargs,slotsL,opdsA,Nat.reduceEqDiff,Nat.reduceLT,Nat.reduceAdd,Nat.reduceBEq,Int.reduceAdd,Int.reduceSub,Int.reduceLT,Int.reduceLE,Int.reduceEq,Int.reduceNeg,↓reduceIte,reduceCtorEq,scL,scD,expand,List.replicate,baseV,eqIf_ifc,eqIf_nil,eqIfA_nn,b1,b2,b3,b4,b5,b6,b7,b8,g1,g2,g3,g4,g5,g6,g7,f1,f2,f3,f4,f5,f6,f7,k1,k2,k3,k4,k5,k6,k7,k8,his])|(refine gC_drawW ?_)|(refine gI_dec (fun _=>?_) (fun _=>?_))|(refine gG_dec (fun _=>?_) (fun _=>?_))|(refine gPG_dec (fun _=>?_) (fun _=>?_))|(refine gI_var (fun _=>?_) (fun _=>?_))|(refine gG_var (fun _=>?_) (fun _=>?_))|(refine gPG_var (fun _=>?_) (fun _=>?_)))
    exact ⟨Nat.zero_le _,trivial,_,(weak_front (aget_fresh _ _ (by simp;omega))).trans (.refl _ _),hstop (by rw[hrd,if_neg (by rw[his];exact Bool.false_ne_true)]) _ (by omega)⟩
   ·repeat' (first|(simp (disch:=first|omega|assumption|(refine @id ((_:Bool)=_) ?_;exact id (by with_unfolding_all rfl))|(exact Or.inl rfl)|(exact Or.inl trivial)|(exact okL_map _ (fun _=>rfl) _)|(simp only[VVlen]<;>omega)|fail) only[VV0,VV1,VV2,VV3,VV4,VV5,VV6,VV7,VV8,VV9,mkFnV,vargs,slotsL,opdsA,Nat.reduceEqDiff,Nat.reduceLT,Nat.reduceAdd,Nat.reduceBEq,Int.reduceAdd,Int.reduceSub,Int.reduceLT,Int.reduceLE,Int.reduceEq,Int.reduceNeg,↓reduceIte,reduceCtorEq,scL,scD,expand,List.replicate,baseV,eqIf_ifc,eqIf_nil,eqIfA_nn,b1,b2,b3,b4,b5,b6,b7,b8,g1,g2,g3,g4,g5,g6,g7,f1,f2,f3,f4,f5,f6,f7,k1,k2,k3,k4,k5,k6,k7,k8,his])|(refine gC_drawW ?_)|(refine gI_dec (fun _=>?_) (fun _=>?_))|(refine gG_dec (fun _=>?_) (fun _=>?_))|(refine gPG_dec (fun _=>?_) (fun _=>?_))|(refine gI_var (fun _=>?_) (fun _=>?_))|(refine gG_var (fun _=>?_) (fun _=>?_))|(refine gPG_var (fun _=>?_) (fun _=>?_)))
    exact ⟨Nat.zero_le _,trivial,_,(weak_front (aget_fresh _ _ (by simp;omega))).trans ((weak_front (aget_fresh _ _ (by simp;omega))).trans (.refl _ _)),hstop (by rw[hrd,if_neg (by rw[his];exact Bool.false_ne_true)]) _ (by omega)⟩
 refine atoi_any w (n+6) hcs u (by omega) hes her (fun vu hu=>?_) (fun hu ku cu=>?_)
 ·repeat' (first|(simp (disch:=first|omega|assumption|(refine @id ((_:Bool)=_) ?_;exact id (by with_unfolding_all rfl))|(exact Or.inl rfl)|(exact Or.inl trivial)|(exact okL_map _ (fun _=>rfl) _)|(simp only[VVlen]<;>omega)|fail) only[VV0,VV1,VV2,VV3,VV4,VV5,VV6,VV7,VV8,VV9,mkFnV,vargs,slotsL,opdsA,Nat.reduceEqDiff,Nat.reduceLT,Nat.reduceAdd,Nat.reduceBEq,Int.reduceAdd,Int.reduceSub,Int.reduceLT,Int.reduceLE,Int.reduceEq,Int.reduceNeg,↓reduceIte,reduceCtorEq,scL,scD,expand,List.replicate,baseV,eqIf_ifc,eqIf_nil,eqIfA_nn,b1,b2,b3,b4,b5,b6,b7,b8,g1,g2,g3,g4,g5,g6,g7,f1,f2,f3,f4,f5,f6,f7,k1,k2,k3,k4,k5,k6,k7,k8,his])|(refine gC_drawW ?_)|(refine gI_dec (fun _=>?_) (fun _=>?_))|(refine gG_dec (fun _=>?_) (fun _=>?_))|(refine gPG_dec (fun _=>?_) (fun _=>?_))|(refine gI_var (fun _=>?_) (fun _=>?_))|(refine gG_var (fun _=>?_) (fun _=>?_))|(refine gPG_var (fun _=>?_) (fun _=>?_)))
  refine atoi_any w (n+6) hcs v (by omega) hes her (fun vv hv=>?_) (fun hv kv cv=>?_)
  ·repeat' (first|(simp (disch:=first|omega|assumption|(refine @id ((_:Bool)=_) ?_;exact id (by with_unfolding_all rfl))|(exact Or.inl rfl)|(exact Or.inl trivial)|(exact okL_map _ (fun _=>rfl) _)|(simp only[VVlen]<;>omega)|fail) only[VV0,VV1,VV2,VV3,VV4,VV5,VV6,VV7,VV8,VV9,mkFnV,vargs,slotsL,opdsA,Nat.reduceEqDiff,Nat.reduceLT,Nat.reduceAdd,Nat.reduceBEq,Int.reduceAdd,Int.reduceSub,Int.reduceLT,Int.reduceLE,Int.reduceEq,Int.reduceNeg,↓reduceIte,reduceCtorEq,scL,scD,expand,List.replicate,baseV,eqIf_ifc,eqIf_nil,eqIfA_nn,b1,b2,b3,b4,b5,b6,b7,b8,g1,g2,g3,g4,g5,g6,g7,f1,f2,f3,f4,f5,f6,f7,k1,k2,k3,k4,k5,k6,k7,k8,his])|(refine gC_drawW ?_)|(refine gI_dec (fun _=>?_) (fun _=>?_))|(refine gG_dec (fun _=>?_) (fun _=>?_))|(refine gPG_dec (fun _=>?_) (fun _=>?_))|(refine gI_var (fun _=>?_) (fun _=>?_))|(refine gG_var (fun _=>?_) (fun _=>?_))|(refine gPG_var (fun _=>?_) (fun _=>?_)))
   repeat' (first|(simp (disch:=first|omega|assumption|(refine @id ((_:Bool)=_) ?_;exact id (by with_unfolding_all rfl))|(exact Or.inl rfl)|(exact Or.inl trivial)|(exact okL_map _ (fun _=>rfl) _)|(simp only[VVlen]<;>omega)|fail) only[VV0,VV1,VV2,VV3,VV4,VV5,VV6,VV7,VV8,VV9,mkFnV,vargs,slotsL,opdsA,Nat.reduceEqDiff,Nat.reduceLT,Nat.reduceAdd,Nat.reduceBEq,Int.reduceAdd,Int.reduceSub,Int.reduceLT,Int.reduceLE,Int.reduceEq,Int.reduceNeg,↓reduceIte,reduceCtorEq,scL,scD,expand,List.replicate,row1V_run,b1,b2,b3,b4,b5,b6,b7,b8,g1,g2,g3,g4,g5,g6,g7,f1,f2,f3,f4,f5,f6,f7,k1,k2,k3,k4,k5,k6,k7,k8,his])|(refine gC_drawW ?_)|(refine gI_dec (fun _=>?_) (fun _=>?_))|(refine gG_dec (fun _=>?_) (fun _=>?_))|(refine gPG_dec (fun _=>?_) (fun _=>?_))|(refine gI_var (fun _=>?_) (fun _=>?_))|(refine gG_var (fun _=>?_) (fun _=>?_))|(refine gPG_var (fun _=>?_) (fun _=>?_)))
   have hh:=hgo (vu,vv) (by rw[hrd,if_pos his,hu,hv];rfl)
   have m1:¬ (nx=6):=by omega
   have m2:¬ (nx=4):=by omega
   have m3:¬ (nx=3):=by omega
   have m4:¬ (nx=2):=by omega
   have m5:¬ (nx=1):=by omega
   have m6:¬ (nx=0):=by omega
   have hnx4:C4.w0.nx=nx:=h4n
   refine ⟨Nat.zero_le _,trivial,_,weak_keep [7,nx+1,5,4,3,2,1,0] (by simp;omega) (by simp;omega) (by omega),Eq.mp (congrArg (Q2 _) ?_) hh⟩
   simp[baseV,runC_append,iD,idR,renH,aget_cons,renO,recO,vrenL,vren,codeOf,b1,b2,b3,b4,b5,b6,b7,b8,g1,g2,g3,g4,g5,g6,g7,f1,f2,f3,f4,f5,f6,f7,k1,k2,k3,k4,k5,k6,k7,k8,m1,m2,m3,m4,m5,m6]
  ·repeat' (first|(simp (disch:=first|omega|assumption|(refine @id ((_:Bool)=_) ?_;exact id (by with_unfolding_all rfl))|(exact Or.inl rfl)|(exact Or.inl trivial)|(exact okL_map _ (fun _=>rfl) _)|(simp only[VVlen]<;>omega)|fail) only[VV0,VV1,VV2,VV3,VV4,VV5,VV6,VV7,VV8,VV9,mkFnV,vargs,slotsL,opdsA,Nat.reduceEqDiff,Nat.reduceLT,Nat.reduceAdd,Nat.reduceBEq,Int.reduceAdd,Int.reduceSub,Int.reduceLT,Int.reduceLE,Int.reduceEq,Int.reduceNeg,↓reduceIte,reduceCtorEq,scL,scD,expand,List.replicate,baseV,eqIf_ifc,eqIf_nil,eqIfA_nn,b1,b2,b3,b4,b5,b6,b7,b8,g1,g2,g3,g4,g5,g6,g7,f1,f2,f3,f4,f5,f6,f7,k1,k2,k3,k4,k5,k6,k7,k8,his])|(refine gC_drawW ?_)|(refine gI_dec (fun _=>?_) (fun _=>?_))|(refine gG_dec (fun _=>?_) (fun _=>?_))|(refine gPG_dec (fun _=>?_) (fun _=>?_))|(refine gI_var (fun _=>?_) (fun _=>?_))|(refine gG_var (fun _=>?_) (fun _=>?_))|(refine gPG_var (fun _=>?_) (fun _=>?_)))
   exact ⟨Nat.zero_le _,trivial,_,(weak_front (aget_fresh _ _ (by simp;omega))).trans (.refl _ _),hstop (by rw[hrd,if_pos his,hu,hv];rfl) _ (by omega)⟩
 ·repeat' (first|(simp (disch:=first|omega|assumption|(refine @id ((_:Bool)=_) ?_;exact id (by with_unfolding_all rfl))|(exact Or.inl rfl)|(exact Or.inl trivial)|(exact okL_map _ (fun _=>rfl) _)|(simp only[VVlen]<;>omega)|fail) only[VV0,VV1,VV2,VV3,VV4,VV5,VV6,VV7,VV8,VV9,mkFnV,vargs,slotsL,opdsA,Nat.reduceEqDiff,Nat.reduceLT,Nat.reduceAdd,Nat.reduceBEq,Int.reduceAdd,Int.reduceSub,Int.reduceLT,Int.reduceLE,Int.reduceEq,Int.reduceNeg,↓reduceIte,reduceCtorEq,scL,scD,expand,List.replicate,baseV,eqIf_ifc,eqIf_nil,eqIfA_nn,b1,b2,b3,b4,b5,b6,b7,b8,g1,g2,g3,g4,g5,g6,g7,f1,f2,f3,f4,f5,f6,f7,k1,k2,k3,k4,k5,k6,k7,k8,his])|(refine gC_drawW ?_)|(refine gI_dec (fun _=>?_) (fun _=>?_))|(refine gG_dec (fun _=>?_) (fun _=>?_))|(refine gPG_dec (fun _=>?_) (fun _=>?_))|(refine gI_var (fun _=>?_) (fun _=>?_))|(refine gG_var (fun _=>?_) (fun _=>?_))|(refine gPG_var (fun _=>?_) (fun _=>?_)))
  refine atoi_any w (n+6) hcs v (by omega) hes her (fun vv hv=>?_) (fun hv kv cv=>?_)
  ·repeat' (first|(simp (disch:=first|omega|assumption|(refine @id ((_:Bool)=_) ?_;exact id (by with_unfolding_all rfl))|(exact Or.inl rfl)|(exact Or.inl trivial)|(exact okL_map _ (fun _=>rfl) _)|(simp only[VVlen]<;>omega)|fail) only[VV0,VV1,VV2,VV3,VV4,VV5,VV6,VV7,VV8,VV9,mkFnV,vargs,slotsL,opdsA,Nat.reduceEqDiff,Nat.reduceLT,Nat.reduceAdd,Nat.reduceBEq,Int.reduceAdd,Int.reduceSub,Int.reduceLT,Int.reduceLE,Int.reduceEq,Int.reduceNeg,↓reduceIte,reduceCtorEq,scL,scD,expand,List.replicate,baseV,eqIf_ifc,eqIf_nil,eqIfA_nn,b1,b2,b3,b4,b5,b6,b7,b8,g1,g2,g3,g4,g5,g6,g7,f1,f2,f3,f4,f5,f6,f7,k1,k2,k3,k4,k5,k6,k7,k8,his])|(refine gC_drawW ?_)|(refine gI_dec (fun _=>?_) (fun _=>?_))|(refine gG_dec (fun _=>?_) (fun _=>?_))|(refine gPG_dec (fun _=>?_) (fun _=>?_))|(refine gI_var (fun _=>?_) (fun _=>?_))|(refine gG_var (fun _=>?_) (fun _=>?_))|(refine gPG_var (fun _=>?_) (fun _=>?_)))
   exact ⟨Nat.zero_le _,trivial,_,(weak_front (aget_fresh _ _ (by simp;omega))).trans (.refl _ _),hstop (by rw[hrd,if_pos his,hu];rfl) _ (by omega)⟩
  ·repeat' (first|(simp (disch:=first|omega|assumption|(refine @id ((_:Bool)=_) ?_;exact id (by with_unfolding_all rfl))|(exact Or.inl rfl)|(exact Or.inl trivial)|(exact okL_map _ (fun _=>rfl) _)|(simp only[VVlen]<;>omega)|fail) only[VV0,VV1,VV2,VV3,VV4,VV5,VV6,VV7,VV8,VV9,mkFnV,vargs,slotsL,opdsA,Nat.reduceEqDiff,Nat.reduceLT,Nat.reduceAdd,Nat.reduceBEq,Int.reduceAdd,Int.reduceSub,Int.reduceLT,Int.reduceLE,Int.reduceEq,Int.reduceNeg,↓reduceIte,reduceCtorEq,scL,scD,expand,List.replicate,baseV,eqIf_ifc,eqIf_nil,eqIfA_nn,b1,b2,b3,b4,b5,b6,b7,b8,g1,g2,g3,g4,g5,g6,g7,f1,f2,f3,f4,f5,f6,f7,k1,k2,k3,k4,k5,k6,k7,k8,his])|(refine gC_drawW ?_)|(refine gI_dec (fun _=>?_) (fun _=>?_))|(refine gG_dec (fun _=>?_) (fun _=>?_))|(refine gPG_dec (fun _=>?_) (fun _=>?_))|(refine gI_var (fun _=>?_) (fun _=>?_))|(refine gG_var (fun _=>?_) (fun _=>?_))|(refine gPG_var (fun _=>?_) (fun _=>?_)))
   exact ⟨Nat.zero_le _,trivial,_,(weak_front (aget_fresh _ _ (by simp;omega))).trans ((weak_front (aget_fresh _ _ (by simp;omega))).trans (.refl _ _)),hstop (by rw[hrd,if_pos his,hu];rfl) _ (by omega)⟩
theorem parse_p (s:List UInt8) (hl:s.length≤100000) (hes:(errO Tryd.prog w "strconv.ErrSyntax").isSome=true) (her:(errO Tryd.prog w "strconv.ErrRange").isSome=true):VSpec (EN w (n+8)) 30 [strV s] (sl2 (pparseF s)) ⟨[],0,0⟩:=by
 refine vspec_g rfl rfl (fun _ _=>rfl) (Nat.le_of_ble_eq_true rfl) (oldVals w) retOK_fin rfl fun C hC hn=>?_
 have hsz:=mk_size s
 by_cases hs:s= []
 ·subst hs
  repeat' (first|(simp (disch:=first|omega|assumption|(refine @id ((_:Bool)=_) ?_;exact id (by with_unfolding_all rfl))|(exact Or.inl rfl)|(exact Or.inl trivial)|(exact okL_map _ (fun _=>rfl) _)|(simp only[VVlen]<;>omega)|fail) only[VV0,VV1,VV2,VV3,VV4,VV5,VV6,VV7,VV8,VV9,mkFnV,vargs,slotsL,opdsA,Nat.reduceEqDiff,Nat.reduceLT,Nat.reduceAdd,Nat.reduceBEq,Int.reduceAdd,Int.reduceSub,Int.reduceLT,Int.reduceLE,Int.reduceEq,Int.reduceNeg,↓reduceIte,reduceCtorEq,scL,scD,expand,List.replicate,c30])|(refine gC_drawW ?_)|(refine gI_dec (fun _=>?_) (fun _=>?_))|(refine gG_dec (fun _=>?_) (fun _=>?_))|(refine gPG_dec (fun _=>?_) (fun _=>?_))|(refine gI_var (fun _=>?_) (fun _=>?_))|(refine gG_var (fun _=>?_) (fun _=>?_))|(refine gPG_var (fun _=>?_) (fun _=>?_)))
  exact weak_finNil hn rfl
 have hs':¬ (ByteArray.mk s.toArray=ByteArray.mk #[]):=fun h=>hs (by
  have:=congrArg (fun b:ByteArray=>b.data.toList) h
  simpa using this)
 repeat' (first|(simp (disch:=first|omega|assumption|(refine @id ((_:Bool)=_) ?_;exact id (by with_unfolding_all rfl))|(exact Or.inl rfl)|(exact Or.inl trivial)|(exact okL_map _ (fun _=>rfl) _)|(simp only[VVlen]<;>omega)|fail) only[VV0,VV1,VV2,VV3,VV4,VV5,VV6,VV7,VV8,VV9,mkFnV,vargs,slotsL,opdsA,Nat.reduceEqDiff,Nat.reduceLT,Nat.reduceAdd,Nat.reduceBEq,Int.reduceAdd,Int.reduceSub,Int.reduceLT,Int.reduceLE,Int.reduceEq,Int.reduceNeg,↓reduceIte,reduceCtorEq,scL,scD,expand,List.replicate,c30,hs'])|(refine gC_drawW ?_)|(refine gI_dec (fun _=>?_) (fun _=>?_))|(refine gG_dec (fun _=>?_) (fun _=>?_))|(refine gPG_dec (fun _=>?_) (fun _=>?_))|(refine gI_var (fun _=>?_) (fun _=>?_))|(refine gG_var (fun _=>?_) (fun _=>?_))|(refine gPG_var (fun _=>?_) (fun _=>?_)))
 refine callV_of (by rw[hC];exact splitSeq_p w (n+5) s 32) rfl rfl rfl ?_
 repeat' (first|(simp (disch:=first|omega|assumption|(refine @id ((_:Bool)=_) ?_;exact id (by with_unfolding_all rfl))|(exact Or.inl rfl)|(exact Or.inl trivial)|(exact okL_map _ (fun _=>rfl) _)|(simp only[VVlen]<;>omega)|fail) only[VV0,VV1,VV2,VV3,VV4,VV5,VV6,VV7,VV8,VV9,mkFnV,vargs,slotsL,opdsA,Nat.reduceEqDiff,Nat.reduceLT,Nat.reduceAdd,Nat.reduceBEq,Int.reduceAdd,Int.reduceSub,Int.reduceLT,Int.reduceLE,Int.reduceEq,Int.reduceNeg,↓reduceIte,reduceCtorEq,scL,scD,expand,List.replicate,vsh,vshL,shH,shO,fzSL,fzS])|(refine gC_drawW ?_)|(refine gI_dec (fun _=>?_) (fun _=>?_))|(refine gG_dec (fun _=>?_) (fun _=>?_))|(refine gPG_dec (fun _=>?_) (fun _=>?_))|(refine gI_var (fun _=>?_) (fun _=>?_))|(refine gG_var (fun _=>?_) (fun _=>?_))|(refine gPG_var (fun _=>?_) (fun _=>?_)))
 refine g_rangeW (weak_nilCell (C:=C) (l:= [.sc (.slice none 0 0)]) 2 24 1 0 58 2 rfl rfl (fun h=>absurd (show (2:Nat)=6 from h) (by decide))) ?_
 refine g_range hC rfl rfl rfl (Nat.le_of_ble_eq_true rfl) rfl (Nat.zero_le _) fun C2 h2n h2r h2p h2o hT=>?_
 repeat' (first|(simp (disch:=first|omega|assumption|(refine @id ((_:Bool)=_) ?_;exact id (by with_unfolding_all rfl))|(exact Or.inl rfl)|(exact Or.inl trivial)|(exact okL_map _ (fun _=>rfl) _)|(simp only[VVlen]<;>omega)|fail) only[VV0,VV1,VV2,VV3,VV4,VV5,VV6,VV7,VV8,VV9,mkFnV,vargs,slotsL,opdsA,Nat.reduceEqDiff,Nat.reduceLT,Nat.reduceAdd,Nat.reduceBEq,Int.reduceAdd,Int.reduceSub,Int.reduceLT,Int.reduceLE,Int.reduceEq,Int.reduceNeg,↓reduceIte,reduceCtorEq,scL,scD,expand,List.replicate])|(refine gC_drawW ?_)|(refine gI_dec (fun _=>?_) (fun _=>?_))|(refine gG_dec (fun _=>?_) (fun _=>?_))|(refine gPG_dec (fun _=>?_) (fun _=>?_))|(refine gI_var (fun _=>?_) (fun _=>?_))|(refine gG_var (fun _=>?_) (fun _=>?_))|(refine gPG_var (fun _=>?_) (fun _=>?_)))
 refine split_iter (d:=7) (oP:=4) (oS:=3) (oV:=5) (c:=32) (s:=s) w (n+2)
  (fun dn r st=>∃ (g nx:Nat) (Q:List (Int × Int)),(g ≠ 0∧g ≠ 1∧g ≠ 2∧g ≠ 3∧g ≠ 4∧g ≠ 5∧g ≠ 7∧g<nx∧7<nx)∧parseA dn=some Q∧st=⟨(7,recO 0)::baseV g Q r 0,nx,0⟩)
  (fun st=>∃ (g nx:Nat) (Q:List (Int × Int)) (r:List UInt8),(g ≠ 0∧g ≠ 1∧g ≠ 2∧g ≠ 3∧g ≠ 4∧g ≠ 5∧g ≠ 7∧g<nx∧7<nx)∧parseA (words 32 s)=none∧st=⟨(7,recO (codeOf .ret))::baseV g Q r 12,nx,0⟩)
  h2p h2o h2r (by omega) hT ?_ ?_ ?_ ?_ ?_ _ ⟨6,8,[],by decide,rfl,rfl⟩
 ·rintro dn r st ⟨g,nx,Q,⟨g1,g2,g3,g4,g5,g6,g7,g8,g9⟩,hQ,rfl⟩
  have f1:=Ne.symm g1
  have f2:=Ne.symm g2
  have f3:=Ne.symm g3
  have f4:=Ne.symm g4
  have f5:=Ne.symm g5
  have f6:=Ne.symm g6
  refine ⟨?_,?_,?_,Nat.zero_le _⟩
  all_goals simp[aget_cons,f1,f2,f3,f4,f5,f6]
 ·rintro dn r x ws st Q2 hw hwr ⟨g,nx,Q,⟨g1,g2,g3,g4,g5,g6,g7,g8,g9⟩,hQ,rfl⟩ hgo hstop
  have hxm:x ∈ words 32 s:=by rw[hw,hwr];simp
  obtain ⟨hwl,hwx⟩:=words_len (c:=32) s.length (s:=s) (Nat.le_refl _)
  have hx1:=hwx x hxm
  have hQl:Q.length≤200000:=by
   have h1:=parseA_len hQ
   have h2:(words 32 s).length=dn.length+(words 32 r).length:=by rw[hw];simp
   omega
  refine parse_round w n hC hes her _ x r (by omega) g nx Q hQl g1 g2 g3 g4 g5 g6 g7 g8 g9 Q2 (fun p hp=>?_) (fun hp nx' hnx=>?_)
  ·refine hgo _ ⟨nx+1,nx+2,Q++ [p],by omega,?_,rfl⟩
   rw[parseA_append _ hQ]
   simp only[parseA,hp,Option.bind_some,Option.map_some]
  ·refine hstop _ ⟨g,nx',Q,r,by omega,?_,rfl⟩
   rw[hw,hwr,parseA_append _ hQ]
   simp only[parseA,hp,Option.bind_none,Option.map_none]
 ·rintro dn r r' st ⟨g,nx,Q,⟨g1,g2,g3,g4,g5,g6,g7,g8,g9⟩,hQ,rfl⟩
  have f4:=Ne.symm g4
  refine ⟨g,nx,Q,⟨g1,g2,g3,g4,g5,g6,g7,g8,g9⟩,hQ,?_⟩
  simp[aset_cons',f4]
 ·rintro fr st r ⟨g,nx,Q,⟨g1,g2,g3,g4,g5,g6,g7,g8,g9⟩,hQ,rfl⟩
  refine ⟨fun i h=>(by cases h),Nat.zero_le _,0,.normal,rfl,rfl,?_⟩
  have f1:=Ne.symm g1
  have f2:=Ne.symm g2
  have f3:=Ne.symm g3
  have f7:=Ne.symm g7
  have f4:=Ne.symm g4
  have f5:=Ne.symm g5
  have f6:=Ne.symm g6
  have hpe:pparseF s=if (expF Q).2 ≠ 0 then ([],12) else if (textF (expF Q).1).1=s then ((expF Q).1,0) else ([],12):=by
   unfold pparseF
   rw[if_neg hs,hQ]
  have hQl:Q.length≤200000:=by
   have h1:=parseA_len hQ
   have h2:=(words_len (c:=32) s.length (s:=s) (Nat.le_refl _)).1
   omega
  have hel:(expF Q).1.length≤4000:=by
   unfold expF
   split
   ·split
    ·have:=(sumR_nn (R:=Q) (by assumption)).2
     simp only;omega
    ·simp
   ·simp
  rw[hpe]
  repeat' (first|(simp (disch:=first|omega|assumption|(refine @id ((_:Bool)=_) ?_;exact id (by with_unfolding_all rfl))|(exact Or.inl rfl)|(exact Or.inl trivial)|(exact okL_map _ (fun _=>rfl) _)|(simp only[VVlen]<;>omega)|fail) only[VV0,VV1,VV2,VV3,VV4,VV5,VV6,VV7,VV8,VV9,mkFnV,vargs,slotsL,opdsA,Nat.reduceEqDiff,Nat.reduceLT,Nat.reduceAdd,Nat.reduceBEq,Int.reduceAdd,Int.reduceSub,Int.reduceLT,Int.reduceLE,Int.reduceEq,Int.reduceNeg,↓reduceIte,reduceCtorEq,scL,scD,expand,List.replicate,f1,f2,f3,f4,f5,f6,f7,g1,g2,g3,g4,g5,g6,g7])|(refine gC_drawW ?_)|(refine gI_dec (fun _=>?_) (fun _=>?_))|(refine gG_dec (fun _=>?_) (fun _=>?_))|(refine gPG_dec (fun _=>?_) (fun _=>?_))|(refine gI_var (fun _=>?_) (fun _=>?_))|(refine gG_var (fun _=>?_) (fun _=>?_))|(refine gPG_var (fun _=>?_) (fun _=>?_)))
  by_cases he:(expF Q).2=0
  case neg=>
   rw[if_pos he]
   refine callV_of (by rw[hC];exact expand_p w (n+3) 2 Q (by omega)) (snapR _ _ _ _) (rowsB_gro 0 _ g 58 2 false _ [] (by rw[aget_cons,if_pos rfl]) (Nat.zero_le _) rfl) rfl ?_
   repeat' (first|(simp (disch:=first|omega|assumption|(refine @id ((_:Bool)=_) ?_;exact id (by with_unfolding_all rfl))|(exact Or.inl rfl)|(exact Or.inl trivial)|(exact okL_map _ (fun _=>rfl) _)|(simp only[VVlen]<;>omega)|fail) only[VV0,VV1,VV2,VV3,VV4,VV5,VV6,VV7,VV8,VV9,mkFnV,vargs,slotsL,opdsA,Nat.reduceEqDiff,Nat.reduceLT,Nat.reduceAdd,Nat.reduceBEq,Int.reduceAdd,Int.reduceSub,Int.reduceLT,Int.reduceLE,Int.reduceEq,Int.reduceNeg,↓reduceIte,reduceCtorEq,scL,scD,expand,List.replicate,vsh,vshL,shH,shO,fzSL,fzS,f1,f2,f3,f4,f5,f6,f7,g1,g2,g3,g4,g5,g6,g7])|(refine gC_drawW ?_)|(refine gI_dec (fun _=>?_) (fun _=>?_))|(refine gG_dec (fun _=>?_) (fun _=>?_))|(refine gPG_dec (fun _=>?_) (fun _=>?_))|(refine gI_var (fun _=>?_) (fun _=>?_))|(refine gG_var (fun _=>?_) (fun _=>?_))|(refine gPG_var (fun _=>?_) (fun _=>?_)))
   all_goals try (exfalso;omega)
   exact weak_finNil hn rfl
  rw[if_neg (fun h=>h he)]
  refine callV_of (by rw[hC];exact expand_p w (n+3) 2 Q (by omega)) (snapR _ _ _ _) (rowsB_gro 0 _ g 58 2 false _ [] (by rw[aget_cons,if_pos rfl]) (Nat.zero_le _) rfl) rfl ?_
  repeat' (first|(simp (disch:=first|omega|assumption|(refine @id ((_:Bool)=_) ?_;exact id (by with_unfolding_all rfl))|(exact Or.inl rfl)|(exact Or.inl trivial)|(exact okL_map _ (fun _=>rfl) _)|(simp only[VVlen]<;>omega)|fail) only[VV0,VV1,VV2,VV3,VV4,VV5,VV6,VV7,VV8,VV9,mkFnV,vargs,slotsL,opdsA,Nat.reduceEqDiff,Nat.reduceLT,Nat.reduceAdd,Nat.reduceBEq,Int.reduceAdd,Int.reduceSub,Int.reduceLT,Int.reduceLE,Int.reduceEq,Int.reduceNeg,↓reduceIte,reduceCtorEq,scL,scD,expand,List.replicate,vsh,vshL,shH,shO,fzSL,fzS,he,f1,f2,f3,f4,f5,f6,f7,g1,g2,g3,g4,g5,g6,g7])|(refine gC_drawW ?_)|(refine gI_dec (fun _=>?_) (fun _=>?_))|(refine gG_dec (fun _=>?_) (fun _=>?_))|(refine gPG_dec (fun _=>?_) (fun _=>?_))|(refine gI_var (fun _=>?_) (fun _=>?_))|(refine gG_var (fun _=>?_) (fun _=>?_))|(refine gPG_var (fun _=>?_) (fun _=>?_)))
  refine callV_flat (by rw[hC];exact (text_p w n 3 (by decide) (expF Q).1 (by omega)).flat rfl rfl) ?_
  by_cases ht:(textF (expF Q).1).1=s
  ·rw[if_pos ht]
   repeat' (first|(simp (disch:=first|omega|assumption|(refine @id ((_:Bool)=_) ?_;exact id (by with_unfolding_all rfl))|(exact Or.inl rfl)|(exact Or.inl trivial)|(exact okL_map _ (fun _=>rfl) _)|(simp only[VVlen]<;>omega)|fail) only[VV0,VV1,VV2,VV3,VV4,VV5,VV6,VV7,VV8,VV9,mkFnV,vargs,slotsL,opdsA,Nat.reduceEqDiff,Nat.reduceLT,Nat.reduceAdd,Nat.reduceBEq,Int.reduceAdd,Int.reduceSub,Int.reduceLT,Int.reduceLE,Int.reduceEq,Int.reduceNeg,↓reduceIte,reduceCtorEq,scL,scD,expand,List.replicate,mk_inj,ht,f1,f2,f3,f4,f5,f6,f7,g1,g2,g3,g4,g5,g6,g7])|(refine gC_drawW ?_)|(refine gI_dec (fun _=>?_) (fun _=>?_))|(refine gG_dec (fun _=>?_) (fun _=>?_))|(refine gPG_dec (fun _=>?_) (fun _=>?_))|(refine gI_var (fun _=>?_) (fun _=>?_))|(refine gG_var (fun _=>?_) (fun _=>?_))|(refine gPG_var (fun _=>?_) (fun _=>?_)))
   exact weak_to [] 0 hn rfl rfl rfl rfl
  ·rw[if_neg ht]
   repeat' (first|(simp (disch:=first|omega|assumption|(refine @id ((_:Bool)=_) ?_;exact id (by with_unfolding_all rfl))|(exact Or.inl rfl)|(exact Or.inl trivial)|(exact okL_map _ (fun _=>rfl) _)|(simp only[VVlen]<;>omega)|fail) only[VV0,VV1,VV2,VV3,VV4,VV5,VV6,VV7,VV8,VV9,mkFnV,vargs,slotsL,opdsA,Nat.reduceEqDiff,Nat.reduceLT,Nat.reduceAdd,Nat.reduceBEq,Int.reduceAdd,Int.reduceSub,Int.reduceLT,Int.reduceLE,Int.reduceEq,Int.reduceNeg,↓reduceIte,reduceCtorEq,scL,scD,expand,List.replicate,mk_inj,ht,f1,f2,f3,f4,f5,f6,f7,g1,g2,g3,g4,g5,g6,g7])|(refine gC_drawW ?_)|(refine gI_dec (fun _=>?_) (fun _=>?_))|(refine gG_dec (fun _=>?_) (fun _=>?_))|(refine gPG_dec (fun _=>?_) (fun _=>?_))|(refine gI_var (fun _=>?_) (fun _=>?_))|(refine gG_var (fun _=>?_) (fun _=>?_))|(refine gPG_var (fun _=>?_) (fun _=>?_)))
   exact weak_finNil hn rfl
 ·rintro ex fr st hex ⟨g,nx,Q,r,⟨g1,g2,g3,g4,g5,g6,g7,g8,g9⟩,hQ,rfl⟩
  refine ⟨hex,Nat.zero_le _,_,.ret,rfl,rfl,?_⟩
  have f1:=Ne.symm g1
  have f2:=Ne.symm g2
  have f7:=Ne.symm g7
  have hpe:pparseF s=([],12):=by
   unfold pparseF
   rw[if_neg hs,hQ]
  rw[hpe]
  repeat' (first|(simp (disch:=first|omega|assumption|(refine @id ((_:Bool)=_) ?_;exact id (by with_unfolding_all rfl))|(exact Or.inl rfl)|(exact Or.inl trivial)|(exact okL_map _ (fun _=>rfl) _)|(simp only[VVlen]<;>omega)|fail) only[VV0,VV1,VV2,VV3,VV4,VV5,VV6,VV7,VV8,VV9,mkFnV,vargs,slotsL,opdsA,Nat.reduceEqDiff,Nat.reduceLT,Nat.reduceAdd,Nat.reduceBEq,Int.reduceAdd,Int.reduceSub,Int.reduceLT,Int.reduceLE,Int.reduceEq,Int.reduceNeg,↓reduceIte,reduceCtorEq,scL,scD,expand,List.replicate,f1,f2,f7,g1,g2,g7])|(refine gC_drawW ?_)|(refine gI_dec (fun _=>?_) (fun _=>?_))|(refine gG_dec (fun _=>?_) (fun _=>?_))|(refine gPG_dec (fun _=>?_) (fun _=>?_))|(refine gI_var (fun _=>?_) (fun _=>?_))|(refine gG_var (fun _=>?_) (fun _=>?_))|(refine gPG_var (fun _=>?_) (fun _=>?_)))
  exact weak_finNil hn rfl
end
end Go.Proofs.YtgglaaldlegckaaDoor
namespace Go.Proofs.YtgglaaldlegckaaDoor
open Go Go.Itp
set_option maxRecDepth 100000
set_option maxHeartbeats 1000000
set_option linter.unusedSimpArgs false
set_option linter.unusedVariables false
theorem readW_txt {p:Int × Int} (h:okW p):readW (txt1 p)=some p:=by
 obtain ⟨⟨a1,a2⟩,a3,a4⟩:=h
 unfold readW
 rw[cut_txt1 (by omega)]
 have h1:numA (Lib.itoa p.1)=some p.1:=by unfold numA;rw[atoi_itoa (by omega) (by omega)]
 have h2:numA (Lib.itoa p.2)=some p.2:=by unfold numA;rw[atoi_itoa (by omega) (by omega)]
 simp only[if_true,h1,h2,Option.bind_some,Option.map_some]
theorem parseA_txt:∀ {R:List (Int × Int)},(∀ p ∈ R,okW p)→parseA (R.map txt1)=some R
 | [],_=>rfl
 |p::R,h=>by
  simp only[List.map_cons,parseA,readW_txt (h p (by simp)),Option.bind_some,parseA_txt fun q hq=>h q (List.mem_cons_of_mem _ hq),Option.map_some]
end Go.Proofs.YtgglaaldlegckaaDoor
namespace Go.Proofs.YtgglaaldlegckaaDoor
open Go Go.Itp
set_option maxRecDepth 100000
set_option maxHeartbeats 1000000
set_option linter.unusedSimpArgs false
set_option linter.unusedVariables false
theorem evs_facts (l:List Int):∀ k,k≤l.length→(evs l k).length=(k+1) / 2∧(ods l k).length=k / 2∧(∀ i,2*i<k→(evs l k)[i]! =l[2*i]!)∧(∀ i,2*i+1<k→(ods l k)[i]! =l[2*i+1]!)
 |0,_=>⟨rfl,rfl,(fun i h=>by omega),(fun i h=>by omega)⟩
 |k+1,hk=>by
  obtain ⟨h1,h2,h3,h4⟩:=evs_facts l k (by omega)
  have ap:∀ (L:List Int) (x:Int) (i:Nat),(L++ [x])[i]! =if i<L.length then L[i]! else if i=L.length then x else (L++ [x])[i]! :=fun L x i=>by
   split
   ·rename_i h
    rw[getElem!_pos _ _ (by simp;omega),getElem!_pos L i h,List.getElem_append_left h]
   ·split
    ·rename_i h;subst h
     rw[getElem!_pos _ _ (by simp)]
     simp
    ·rfl
  by_cases hp:k % 2=0
  ·have e1:evs l (k+1)=evs l k++ [l[k]!]:=if_pos hp
   have e2:ods l (k+1)=ods l k:=if_pos hp
   refine ⟨by rw[e1,List.length_append,h1,List.length_singleton];omega,by rw[e2,h2];omega,fun i hi=>?_,fun i hi=>?_⟩
   ·rw[e1,ap]
    by_cases hik:2*i<k
    ·rw[if_pos (by omega)];exact h3 i hik
    ·have:2*i=k:=by omega
     rw[if_neg (by omega),if_pos (by omega),this]
   ·rw[e2];exact h4 i (by omega)
  ·have e1:evs l (k+1)=evs l k:=if_neg hp
   have e2:ods l (k+1)=ods l k++ [l[k]!]:=if_neg hp
   refine ⟨by rw[e1,h1];omega,by rw[e2,List.length_append,h2,List.length_singleton];omega,fun i hi=>?_,fun i hi=>?_⟩
   ·rw[e1];exact h3 i (by omega)
   ·rw[e2,ap]
    by_cases hik:2*i+1<k
    ·rw[if_pos (by omega)];exact h4 i hik
    ·have:2*i+1=k:=by omega
     rw[if_neg (by omega),if_pos (by omega),this]
theorem chk_of {l:List Int} (h1:l.length≤4000) (h:∀ i,i<l.length→col l[i]! =true):chk l=0:=by
 unfold chk
 rw[if_neg (by omega),if_pos]
 refine List.all_eq_true.2 fun x hx=>?_
 obtain ⟨i,hi,rfl⟩:=List.getElem_of_mem hx
 have:=h i hi
 rw[getElem!_pos l i hi] at this
 exact this
theorem col_of {x:Int} (h:0≤x∧x≤15):col x=true:=by simp[col,h]
theorem uncross_cross {l:List Int} (h:chk l=0):uncF (evs l l.length) (ods l l.length)=(l,0):=by
 obtain ⟨hl4,hcol⟩:=chk_facts h
 obtain ⟨h1,h2,h3,h4⟩:=evs_facts l l.length (Nat.le_refl _)
 have c1:chk (evs l l.length)=0:=chk_of (by omega) fun i hi=>by rw[h3 i (by omega)];exact col_of (hcol _ (by omega))
 have c2:chk (ods l l.length)=0:=chk_of (by omega) fun i hi=>by rw[h4 i (by omega)];exact col_of (hcol _ (by omega))
 unfold uncF
 rw[if_neg (by simpa using c1),if_neg (by simpa using c2),if_pos (by omega),if_neg (by omega)]
 have hs:(evs l l.length).length+(ods l l.length).length=l.length:=by omega
 rw[hs]
 have:unc (evs l l.length) (ods l l.length) l.length=l:=by
  refine List.ext_getElem (by rw[unc_len]) fun i a b=>?_
  simp only[unc,List.getElem_map,List.getElem_range,und]
  split
  ·rw[h3 (i / 2) (by omega),show 2*(i / 2)=i by omega,getElem!_pos l i b]
  ·rw[h4 (i / 2) (by omega),show 2*(i / 2)+1=i by omega,getElem!_pos l i b]
 rw[this]
theorem canon_adj:∀ {prev:Option Int} {R:List (Int × Int)},Canon prev R→∀ k,k+1<R.length→R[k+1]!.2 ≠ R[k]!.2
 |_,[],_,k,hk=>by simp at hk
 |_,[p],_,k,hk=>by simp at hk
 |prev,p::q::R,h,k,hk=>by
  cases k with
  |zero=>
   have:=h.2.1.2
   intro e
   exact this (by simpa using e.symm)
  |succ k=>
   have:=canon_adj h.2 k (by simpa using hk)
   simpa using this
theorem back_facts {l:List Int} (h:chk l=0):expF (runsP l l.length)=(l,0)∧pparseF (txt (runsP l l.length))=(l,0):=by
 obtain ⟨h1,h2,_⟩:=runs_facts h l.length (Nat.le_refl _)
 obtain ⟨hl4,_⟩:=chk_facts h
 rw[List.take_length] at h1
 have hok:=canon_ok h2
 have hs:=(sumR_nn hok).2
 rw[h1] at hs
 have e1:expF (runsP l l.length)=(l,0):=by
  unfold expF
  rw[if_pos hok,if_pos (by omega),h1]
 refine ⟨e1,?_⟩
 have e2:textF l=(txt (runsP l l.length),0):=if_pos h
 unfold pparseF
 by_cases hn:runsP l l.length= []
 ·rw[hn] at h1 ⊢
  rw[show txt []= [] from rfl,if_pos rfl,← h1]
  rfl
 ·rw[if_neg (fun e=>hn ((txt_nil_iff _).1 e)),words_txt hn hok,parseA_txt hok]
  simp only
  rw[e1]
  simp only
  rw[if_neg (by simp),e2,if_pos rfl]
def fitF (l:List Int):Bool:=decide (l.length≤60) && decide (chk l=0)
section
variable (w:World) (n:Nat)
theorem fit_p (s:Nat) (l:List Int) (hl:l.length≤140737488351232):VSpec (EN w (n+2)) 23 [.sl s l.length (l.map iD)] (.sc (.bool (fitF l))) ⟨[],0,0⟩:=by
 refine vspec_flat rfl rfl (fun _ _=>rfl) (Nat.le_of_ble_eq_true rfl) (oldVals w) rfl fun C hC h0=>?_
 by_cases h1:l.length≤60
 ·have e:fitF l=decide (chk l=0):=by unfold fitF;rw[decide_eq_true h1];rfl
  rw[e]
  repeat' (first|(simp (disch:=first|omega|assumption|(refine @id ((_:Bool)=_) ?_;exact id (by with_unfolding_all rfl))|(exact Or.inl rfl)|(exact Or.inl trivial)|(exact okL_map _ (fun _=>rfl) _)|(simp only[VVlen]<;>omega)|fail) only[VV0,VV1,VV2,VV3,VV4,VV5,VV6,VV7,VV8,VV9,mkFnV,vargs,slotsL,opdsA,Nat.reduceEqDiff,Nat.reduceLT,Nat.reduceAdd,Nat.reduceBEq,Int.reduceAdd,Int.reduceSub,Int.reduceLT,Int.reduceLE,Int.reduceEq,Int.reduceNeg,↓reduceIte,reduceCtorEq,scL,scD,expand,List.replicate,c23])|(refine gC_drawW ?_)|(refine gI_dec (fun _=>?_) (fun _=>?_))|(refine gG_dec (fun _=>?_) (fun _=>?_))|(refine gPG_dec (fun _=>?_) (fun _=>?_))|(refine gI_var (fun _=>?_) (fun _=>?_))|(refine gG_var (fun _=>?_) (fun _=>?_))|(refine gPG_var (fun _=>?_) (fun _=>?_)))
  all_goals try (exfalso;omega)
  refine callV_flat ((fun st=>(rcheck_p w n s l hl).of hC rfl st rfl) _) ?_
  simp (disch:=first|omega|assumption|(refine @id ((_:Bool)=_) ?_;exact id (by with_unfolding_all rfl))|(exact Or.inl rfl)|(exact Or.inl trivial)|(exact okL_map _ (fun _=>rfl) _)|(simp only[VVlen]<;>omega)|fail) only[VV0,VV1,VV2,VV3,VV4,VV5,VV6,VV7,VV8,VV9,mkFnV,vargs,slotsL,opdsA,Nat.reduceEqDiff,Nat.reduceLT,Nat.reduceAdd,Nat.reduceBEq,Int.reduceAdd,Int.reduceSub,Int.reduceLT,Int.reduceLE,Int.reduceEq,Int.reduceNeg,↓reduceIte,reduceCtorEq,scL,scD,expand,List.replicate]
  exact weak_flat rfl h0 rfl
 ·have e:fitF l=false:=by unfold fitF;rw[decide_eq_false h1];rfl
  rw[e]
  repeat' (first|(simp (disch:=first|omega|assumption|(refine @id ((_:Bool)=_) ?_;exact id (by with_unfolding_all rfl))|(exact Or.inl rfl)|(exact Or.inl trivial)|(exact okL_map _ (fun _=>rfl) _)|(simp only[VVlen]<;>omega)|fail) only[VV0,VV1,VV2,VV3,VV4,VV5,VV6,VV7,VV8,VV9,mkFnV,vargs,slotsL,opdsA,Nat.reduceEqDiff,Nat.reduceLT,Nat.reduceAdd,Nat.reduceBEq,Int.reduceAdd,Int.reduceSub,Int.reduceLT,Int.reduceLE,Int.reduceEq,Int.reduceNeg,↓reduceIte,reduceCtorEq,scL,scD,expand,List.replicate,c23])|(refine gC_drawW ?_)|(refine gI_dec (fun _=>?_) (fun _=>?_))|(refine gG_dec (fun _=>?_) (fun _=>?_))|(refine gPG_dec (fun _=>?_) (fun _=>?_))|(refine gI_var (fun _=>?_) (fun _=>?_))|(refine gG_var (fun _=>?_) (fun _=>?_))|(refine gPG_var (fun _=>?_) (fun _=>?_)))
  all_goals try (exfalso;omega)
  exact weak_flat rfl h0 rfl
end
theorem back_g (w:World) (l:List Int) (hl:l.length≤140737488351232) (hes:(errO Tryd.prog w "strconv.ErrSyntax").isSome=true) (her:(errO Tryd.prog w "strconv.ErrRange").isSome=true) {C:Ctx} (hC:C.E=EN w 8) (h0:C.w0.nx=0):
  gC C c8.code [] (vargs 0 [.sl 3 l.length (l.map iD)]) ⟨[],0,0⟩ (RetV C c8.res (.sc (.bool true)) ⟨[],0,0⟩):=by
 have f2:∀ (H:VHp),frozA [] H=H:=frozA_none
 repeat' (first|(simp (disch:=first|omega|assumption|(refine @id ((_:Bool)=_) ?_;exact id (by with_unfolding_all rfl))|(exact Or.inl rfl)|(exact Or.inl trivial)|(exact okL_map _ (fun _=>rfl) _)|(simp only[VVlen]<;>omega)|fail) only[VV0,VV1,VV2,VV3,VV4,VV5,VV6,VV7,VV8,VV9,mkFnV,vargs,slotsL,opdsA,Nat.reduceEqDiff,Nat.reduceLT,Nat.reduceAdd,Nat.reduceBEq,Int.reduceAdd,Int.reduceSub,Int.reduceLT,Int.reduceLE,Int.reduceEq,Int.reduceNeg,↓reduceIte,reduceCtorEq,scL,scD,expand,List.replicate,c8])|(refine gC_drawW ?_)|(refine gI_dec (fun _=>?_) (fun _=>?_))|(refine gG_dec (fun _=>?_) (fun _=>?_))|(refine gPG_dec (fun _=>?_) (fun _=>?_))|(refine gI_var (fun _=>?_) (fun _=>?_))|(refine gG_var (fun _=>?_) (fun _=>?_))|(refine gPG_var (fun _=>?_) (fun _=>?_)))
 refine callV_flat (by rw[hC];exact alive_o w 7 _) ?_
 repeat' (first|(simp (disch:=first|omega|assumption|(refine @id ((_:Bool)=_) ?_;exact id (by with_unfolding_all rfl))|(exact Or.inl rfl)|(exact Or.inl trivial)|(exact okL_map _ (fun _=>rfl) _)|(simp only[VVlen]<;>omega)|fail) only[VV0,VV1,VV2,VV3,VV4,VV5,VV6,VV7,VV8,VV9,mkFnV,vargs,slotsL,opdsA,Nat.reduceEqDiff,Nat.reduceLT,Nat.reduceAdd,Nat.reduceBEq,Int.reduceAdd,Int.reduceSub,Int.reduceLT,Int.reduceLE,Int.reduceEq,Int.reduceNeg,↓reduceIte,reduceCtorEq,scL,scD,expand,List.replicate])|(refine gC_drawW ?_)|(refine gI_dec (fun _=>?_) (fun _=>?_))|(refine gG_dec (fun _=>?_) (fun _=>?_))|(refine gPG_dec (fun _=>?_) (fun _=>?_))|(refine gI_var (fun _=>?_) (fun _=>?_))|(refine gG_var (fun _=>?_) (fun _=>?_))|(refine gPG_var (fun _=>?_) (fun _=>?_)))
 refine callV_flat ((fit_p w 6 3 l hl).of hC rfl _ rfl) ?_
 by_cases hf:fitF l=true
 case neg=>
  rw[Bool.not_eq_true] at hf
  rw[hf]
  repeat' (first|(simp (disch:=first|omega|assumption|(refine @id ((_:Bool)=_) ?_;exact id (by with_unfolding_all rfl))|(exact Or.inl rfl)|(exact Or.inl trivial)|(exact okL_map _ (fun _=>rfl) _)|(simp only[VVlen]<;>omega)|fail) only[VV0,VV1,VV2,VV3,VV4,VV5,VV6,VV7,VV8,VV9,mkFnV,vargs,slotsL,opdsA,Nat.reduceEqDiff,Nat.reduceLT,Nat.reduceAdd,Nat.reduceBEq,Int.reduceAdd,Int.reduceSub,Int.reduceLT,Int.reduceLE,Int.reduceEq,Int.reduceNeg,↓reduceIte,reduceCtorEq,scL,scD,expand,List.replicate])|(refine gC_drawW ?_)|(refine gI_dec (fun _=>?_) (fun _=>?_))|(refine gG_dec (fun _=>?_) (fun _=>?_))|(refine gPG_dec (fun _=>?_) (fun _=>?_))|(refine gI_var (fun _=>?_) (fun _=>?_))|(refine gG_var (fun _=>?_) (fun _=>?_))|(refine gPG_var (fun _=>?_) (fun _=>?_)))
  exact weak_flat rfl h0 rfl
 rw[hf]
 simp only[fitF,Bool.and_eq_true,decide_eq_true_eq] at hf
 obtain ⟨hl6,hck⟩:=hf
 obtain ⟨e1,e2⟩:=back_facts hck
 have e3:=uncross_cross hck
 have e4:runsF l=(runsP l l.length,0):=if_pos hck
 have e5:textF l=(txt (runsP l l.length),0):=if_pos hck
 have e6:crossF l=(evs l l.length,ods l l.length,0):=if_pos hck
 obtain ⟨c1,c2,_⟩:=runs_facts hck l.length (Nat.le_refl _)
 obtain ⟨hl4,hcol⟩:=chk_facts hck
 have hrl:=runsP_len l l.length
 have htl:=txt_len (runsP l l.length) (fun q hq=>⟨by have:=runsP_cnt l l.length q hq;omega,by obtain ⟨j,hj,e⟩:=runsP_col l l.length q hq;have:=hcol j (by omega);omega⟩)
 obtain ⟨v1,v2,_⟩:=evs_facts l l.length (Nat.le_refl _)
 have hadj:=canon_adj c2
 have s1:=runs_p w 2 3 (by decide) l hl
 rw[e4] at s1
 have s2:=expand_p w 4 3 (runsP l l.length) (by omega)
 rw[e1] at s2
 have s3:=text_p w 1 3 (by decide) l hl
 rw[e5] at s3
 have s4:=parse_p w 0 (txt (runsP l l.length)) (by omega) hes her
 rw[e2] at s4
 have s5:=cross_p w 2 3 l hl
 rw[e6] at s5
 have s6:=uncross_p w 2 3 3 (evs l l.length) (ods l l.length) (by omega) (by omega)
 rw[e3] at s6
 generalize runsP l l.length=R at*
 generalize txt R=T at*
 generalize evs l l.length=A at*
 generalize ods l l.length=B at*
 have hsm:=fun st=>(same_p w 7 3 3 l hl).flat (st:=st) (xs:= [.sl 3 l.length (l.map iD),.sl 3 l.length (l.map iD)]) rfl rfl
 repeat' (first|(simp (disch:=first|omega|assumption|(refine @id ((_:Bool)=_) ?_;exact id (by with_unfolding_all rfl))|(exact Or.inl rfl)|(exact Or.inl trivial)|(exact okL_map _ (fun _=>rfl) _)|(simp only[VVlen]<;>omega)|fail) only[VV0,VV1,VV2,VV3,VV4,VV5,VV6,VV7,VV8,VV9,mkFnV,vargs,slotsL,opdsA,Nat.reduceEqDiff,Nat.reduceLT,Nat.reduceAdd,Nat.reduceBEq,Int.reduceAdd,Int.reduceSub,Int.reduceLT,Int.reduceLE,Int.reduceEq,Int.reduceNeg,↓reduceIte,reduceCtorEq,scL,scD,expand,List.replicate])|(refine gC_drawW ?_)|(refine gI_dec (fun _=>?_) (fun _=>?_))|(refine gG_dec (fun _=>?_) (fun _=>?_))|(refine gPG_dec (fun _=>?_) (fun _=>?_))|(refine gI_var (fun _=>?_) (fun _=>?_))|(refine gG_var (fun _=>?_) (fun _=>?_))|(refine gPG_var (fun _=>?_) (fun _=>?_)))
 refine callV_of (by rw[hC];exact s1) rfl rfl rfl ?_
 repeat' (first|(simp (disch:=first|omega|assumption|(refine @id ((_:Bool)=_) ?_;exact id (by with_unfolding_all rfl))|(exact Or.inl rfl)|(exact Or.inl trivial)|(exact okL_map _ (fun _=>rfl) _)|(simp only[VVlen]<;>omega)|fail) only[VV0,VV1,VV2,VV3,VV4,VV5,VV6,VV7,VV8,VV9,mkFnV,vargs,slotsL,opdsA,Nat.reduceEqDiff,Nat.reduceLT,Nat.reduceAdd,Nat.reduceBEq,Int.reduceAdd,Int.reduceSub,Int.reduceLT,Int.reduceLE,Int.reduceEq,Int.reduceNeg,↓reduceIte,reduceCtorEq,scL,scD,expand,List.replicate,vsh,vshL,shH,shO,fzSL,fzS,f2])|(refine gC_drawW ?_)|(refine gI_dec (fun _=>?_) (fun _=>?_))|(refine gG_dec (fun _=>?_) (fun _=>?_))|(refine gPG_dec (fun _=>?_) (fun _=>?_))|(refine gI_var (fun _=>?_) (fun _=>?_))|(refine gG_var (fun _=>?_) (fun _=>?_))|(refine gPG_var (fun _=>?_) (fun _=>?_)))
 refine callV_of (by rw[hC];exact s2) rfl rfl rfl ?_
 repeat' (first|(simp (disch:=first|omega|assumption|(refine @id ((_:Bool)=_) ?_;exact id (by with_unfolding_all rfl))|(exact Or.inl rfl)|(exact Or.inl trivial)|(exact okL_map _ (fun _=>rfl) _)|(simp only[VVlen]<;>omega)|fail) only[VV0,VV1,VV2,VV3,VV4,VV5,VV6,VV7,VV8,VV9,mkFnV,vargs,slotsL,opdsA,Nat.reduceEqDiff,Nat.reduceLT,Nat.reduceAdd,Nat.reduceBEq,Int.reduceAdd,Int.reduceSub,Int.reduceLT,Int.reduceLE,Int.reduceEq,Int.reduceNeg,↓reduceIte,reduceCtorEq,scL,scD,expand,List.replicate,vsh,vshL,shH,shO,fzSL,fzS,f2])|(refine gC_drawW ?_)|(refine gI_dec (fun _=>?_) (fun _=>?_))|(refine gG_dec (fun _=>?_) (fun _=>?_))|(refine gPG_dec (fun _=>?_) (fun _=>?_))|(refine gI_var (fun _=>?_) (fun _=>?_))|(refine gG_var (fun _=>?_) (fun _=>?_))|(refine gPG_var (fun _=>?_) (fun _=>?_)))
 refine callV_flat (by rw[hC];exact s3.flat rfl rfl) ?_
 repeat' (first|(simp (disch:=first|omega|assumption|(refine @id ((_:Bool)=_) ?_;exact id (by with_unfolding_all rfl))|(exact Or.inl rfl)|(exact Or.inl trivial)|(exact okL_map _ (fun _=>rfl) _)|(simp only[VVlen]<;>omega)|fail) only[VV0,VV1,VV2,VV3,VV4,VV5,VV6,VV7,VV8,VV9,mkFnV,vargs,slotsL,opdsA,Nat.reduceEqDiff,Nat.reduceLT,Nat.reduceAdd,Nat.reduceBEq,Int.reduceAdd,Int.reduceSub,Int.reduceLT,Int.reduceLE,Int.reduceEq,Int.reduceNeg,↓reduceIte,reduceCtorEq,scL,scD,expand,List.replicate])|(refine gC_drawW ?_)|(refine gI_dec (fun _=>?_) (fun _=>?_))|(refine gG_dec (fun _=>?_) (fun _=>?_))|(refine gPG_dec (fun _=>?_) (fun _=>?_))|(refine gI_var (fun _=>?_) (fun _=>?_))|(refine gG_var (fun _=>?_) (fun _=>?_))|(refine gPG_var (fun _=>?_) (fun _=>?_)))
 refine callV_of (by rw[hC];exact s4) rfl rfl rfl ?_
 repeat' (first|(simp (disch:=first|omega|assumption|(refine @id ((_:Bool)=_) ?_;exact id (by with_unfolding_all rfl))|(exact Or.inl rfl)|(exact Or.inl trivial)|(exact okL_map _ (fun _=>rfl) _)|(simp only[VVlen]<;>omega)|fail) only[VV0,VV1,VV2,VV3,VV4,VV5,VV6,VV7,VV8,VV9,mkFnV,vargs,slotsL,opdsA,Nat.reduceEqDiff,Nat.reduceLT,Nat.reduceAdd,Nat.reduceBEq,Int.reduceAdd,Int.reduceSub,Int.reduceLT,Int.reduceLE,Int.reduceEq,Int.reduceNeg,↓reduceIte,reduceCtorEq,scL,scD,expand,List.replicate,vsh,vshL,shH,shO,fzSL,fzS,f2])|(refine gC_drawW ?_)|(refine gI_dec (fun _=>?_) (fun _=>?_))|(refine gG_dec (fun _=>?_) (fun _=>?_))|(refine gPG_dec (fun _=>?_) (fun _=>?_))|(refine gI_var (fun _=>?_) (fun _=>?_))|(refine gG_var (fun _=>?_) (fun _=>?_))|(refine gPG_var (fun _=>?_) (fun _=>?_)))
 refine callV_of (by rw[hC];exact s5) rfl rfl rfl ?_
 repeat' (first|(simp (disch:=first|omega|assumption|(refine @id ((_:Bool)=_) ?_;exact id (by with_unfolding_all rfl))|(exact Or.inl rfl)|(exact Or.inl trivial)|(exact okL_map _ (fun _=>rfl) _)|(simp only[VVlen]<;>omega)|fail) only[VV0,VV1,VV2,VV3,VV4,VV5,VV6,VV7,VV8,VV9,mkFnV,vargs,slotsL,opdsA,Nat.reduceEqDiff,Nat.reduceLT,Nat.reduceAdd,Nat.reduceBEq,Int.reduceAdd,Int.reduceSub,Int.reduceLT,Int.reduceLE,Int.reduceEq,Int.reduceNeg,↓reduceIte,reduceCtorEq,scL,scD,expand,List.replicate,vsh,vshL,shH,shO,fzSL,fzS,f2])|(refine gC_drawW ?_)|(refine gI_dec (fun _=>?_) (fun _=>?_))|(refine gG_dec (fun _=>?_) (fun _=>?_))|(refine gPG_dec (fun _=>?_) (fun _=>?_))|(refine gI_var (fun _=>?_) (fun _=>?_))|(refine gG_var (fun _=>?_) (fun _=>?_))|(refine gPG_var (fun _=>?_) (fun _=>?_)))
 refine callV_of (by rw[hC];exact s6) rfl rfl rfl ?_
 repeat' (first|(simp (disch:=first|omega|assumption|(refine @id ((_:Bool)=_) ?_;exact id (by with_unfolding_all rfl))|(exact Or.inl rfl)|(exact Or.inl trivial)|(exact okL_map _ (fun _=>rfl) _)|(simp only[VVlen]<;>omega)|fail) only[VV0,VV1,VV2,VV3,VV4,VV5,VV6,VV7,VV8,VV9,mkFnV,vargs,slotsL,opdsA,Nat.reduceEqDiff,Nat.reduceLT,Nat.reduceAdd,Nat.reduceBEq,Int.reduceAdd,Int.reduceSub,Int.reduceLT,Int.reduceLE,Int.reduceEq,Int.reduceNeg,↓reduceIte,reduceCtorEq,scL,scD,expand,List.replicate,vsh,vshL,shH,shO,fzSL,fzS,f2])|(refine gC_drawW ?_)|(refine gI_dec (fun _=>?_) (fun _=>?_))|(refine gG_dec (fun _=>?_) (fun _=>?_))|(refine gPG_dec (fun _=>?_) (fun _=>?_))|(refine gI_var (fun _=>?_) (fun _=>?_))|(refine gG_var (fun _=>?_) (fun _=>?_))|(refine gPG_var (fun _=>?_) (fun _=>?_)))
 refine g_while (fun m fr st=>∃ k:Nat,m=R.length+1 - k∧1≤k∧(k≤R.length∨k=1)∧fr= [(0,.sl 3 l.length (l.map iD)),(3,.sc (.bool true)),(4,.sl 3 R.length (runC R)),(6,slI l),(10,slI l),(12,slI A),(13,slI B),(15,slI l),(17,.sc (.int .i64 k))]∧st=⟨[],0,0⟩) R.length ?_ ⟨_,_,weak_akeep [0,3,4,6,10,12,13,15,17] rfl,1,?_⟩ ?_
 ·rw[hC,callP_rounds];unfold many;omega
 ·exact ⟨by omega,by omega,.inr rfl,rfl,rfl⟩
 ·rintro m fr st ⟨k,rfl,hk1,hk,rfl,rfl⟩
  by_cases hlt:k<R.length
  ·have g1:=runC_f1 R k hlt
   have g2:=runC_f1 R (k - 1) (by omega)
   have g3:=hadj (k - 1) (by omega)
   rw[show k - 1+1=k by omega] at g3
   have g4:(k:Int) - 1=((k - 1:Nat):Int):=by omega
   generalize R[k]!.2=x at g1 g3
   generalize R[k - 1]!.2=y at g2 g3
   repeat' (first|(simp (disch:=first|omega|assumption|(refine @id ((_:Bool)=_) ?_;exact id (by with_unfolding_all rfl))|(exact Or.inl rfl)|(exact Or.inl trivial)|(exact okL_map _ (fun _=>rfl) _)|(simp only[VVlen]<;>omega)|fail) only[VV0,VV1,VV2,VV3,VV4,VV5,VV6,VV7,VV8,VV9,mkFnV,vargs,slotsL,opdsA,Nat.reduceEqDiff,Nat.reduceLT,Nat.reduceAdd,Nat.reduceBEq,Int.reduceAdd,Int.reduceSub,Int.reduceLT,Int.reduceLE,Int.reduceEq,Int.reduceNeg,↓reduceIte,reduceCtorEq,scL,scD,expand,List.replicate,c8l0,g1,g2,g3,g4])|(refine gC_drawW ?_)|(refine gI_dec (fun _=>?_) (fun _=>?_))|(refine gG_dec (fun _=>?_) (fun _=>?_))|(refine gPG_dec (fun _=>?_) (fun _=>?_))|(refine gI_var (fun _=>?_) (fun _=>?_))|(refine gG_var (fun _=>?_) (fun _=>?_))|(refine gPG_var (fun _=>?_) (fun _=>?_)))
   all_goals try (exfalso;omega)
   exact ⟨_,_,_,by omega,.refl _ _,k+1,rfl,by omega,.inl (by omega),rfl,rfl⟩
  ·repeat' (first|(simp (disch:=first|omega|assumption|(refine @id ((_:Bool)=_) ?_;exact id (by with_unfolding_all rfl))|(exact Or.inl rfl)|(exact Or.inl trivial)|(exact okL_map _ (fun _=>rfl) _)|(simp only[VVlen]<;>omega)|fail) only[VV0,VV1,VV2,VV3,VV4,VV5,VV6,VV7,VV8,VV9,mkFnV,vargs,slotsL,opdsA,Nat.reduceEqDiff,Nat.reduceLT,Nat.reduceAdd,Nat.reduceBEq,Int.reduceAdd,Int.reduceSub,Int.reduceLT,Int.reduceLE,Int.reduceEq,Int.reduceNeg,↓reduceIte,reduceCtorEq,scL,scD,expand,List.replicate,c8l0])|(refine gC_drawW ?_)|(refine gI_dec (fun _=>?_) (fun _=>?_))|(refine gG_dec (fun _=>?_) (fun _=>?_))|(refine gPG_dec (fun _=>?_) (fun _=>?_))|(refine gI_var (fun _=>?_) (fun _=>?_))|(refine gG_var (fun _=>?_) (fun _=>?_))|(refine gPG_var (fun _=>?_) (fun _=>?_)))
   all_goals try (exfalso;omega)
   refine callV_flat (by rw[hC];exact hsm _) ?_
   repeat' (first|(simp (disch:=first|omega|assumption|(refine @id ((_:Bool)=_) ?_;exact id (by with_unfolding_all rfl))|(exact Or.inl rfl)|(exact Or.inl trivial)|(exact okL_map _ (fun _=>rfl) _)|(simp only[VVlen]<;>omega)|fail) only[VV0,VV1,VV2,VV3,VV4,VV5,VV6,VV7,VV8,VV9,mkFnV,vargs,slotsL,opdsA,Nat.reduceEqDiff,Nat.reduceLT,Nat.reduceAdd,Nat.reduceBEq,Int.reduceAdd,Int.reduceSub,Int.reduceLT,Int.reduceLE,Int.reduceEq,Int.reduceNeg,↓reduceIte,reduceCtorEq,scL,scD,expand,List.replicate])|(refine gC_drawW ?_)|(refine gI_dec (fun _=>?_) (fun _=>?_))|(refine gG_dec (fun _=>?_) (fun _=>?_))|(refine gPG_dec (fun _=>?_) (fun _=>?_))|(refine gI_var (fun _=>?_) (fun _=>?_))|(refine gG_var (fun _=>?_) (fun _=>?_))|(refine gPG_var (fun _=>?_) (fun _=>?_)))
   refine callV_flat (by rw[hC];exact hsm _) ?_
   repeat' (first|(simp (disch:=first|omega|assumption|(refine @id ((_:Bool)=_) ?_;exact id (by with_unfolding_all rfl))|(exact Or.inl rfl)|(exact Or.inl trivial)|(exact okL_map _ (fun _=>rfl) _)|(simp only[VVlen]<;>omega)|fail) only[VV0,VV1,VV2,VV3,VV4,VV5,VV6,VV7,VV8,VV9,mkFnV,vargs,slotsL,opdsA,Nat.reduceEqDiff,Nat.reduceLT,Nat.reduceAdd,Nat.reduceBEq,Int.reduceAdd,Int.reduceSub,Int.reduceLT,Int.reduceLE,Int.reduceEq,Int.reduceNeg,↓reduceIte,reduceCtorEq,scL,scD,expand,List.replicate])|(refine gC_drawW ?_)|(refine gI_dec (fun _=>?_) (fun _=>?_))|(refine gG_dec (fun _=>?_) (fun _=>?_))|(refine gPG_dec (fun _=>?_) (fun _=>?_))|(refine gI_var (fun _=>?_) (fun _=>?_))|(refine gG_var (fun _=>?_) (fun _=>?_))|(refine gPG_var (fun _=>?_) (fun _=>?_)))
   refine callV_flat (by rw[hC];exact hsm _) ?_
   repeat' (first|(simp (disch:=first|omega|assumption|(refine @id ((_:Bool)=_) ?_;exact id (by with_unfolding_all rfl))|(exact Or.inl rfl)|(exact Or.inl trivial)|(exact okL_map _ (fun _=>rfl) _)|(simp only[VVlen]<;>omega)|fail) only[VV0,VV1,VV2,VV3,VV4,VV5,VV6,VV7,VV8,VV9,mkFnV,vargs,slotsL,opdsA,Nat.reduceEqDiff,Nat.reduceLT,Nat.reduceAdd,Nat.reduceBEq,Int.reduceAdd,Int.reduceSub,Int.reduceLT,Int.reduceLE,Int.reduceEq,Int.reduceNeg,↓reduceIte,reduceCtorEq,scL,scD,expand,List.replicate])|(refine gC_drawW ?_)|(refine gI_dec (fun _=>?_) (fun _=>?_))|(refine gG_dec (fun _=>?_) (fun _=>?_))|(refine gPG_dec (fun _=>?_) (fun _=>?_))|(refine gI_var (fun _=>?_) (fun _=>?_))|(refine gG_var (fun _=>?_) (fun _=>?_))|(refine gPG_var (fun _=>?_) (fun _=>?_)))
   all_goals try (exfalso;omega)
   all_goals exact weak_flat rfl h0 rfl
end Go.Proofs.YtgglaaldlegckaaDoor
namespace Go.Proofs.YtgglaaldlegckaaDoor
open Go Go.Itp
open Go.ChangeShapes Go.WideShapes Go.ChangeAt Go.RowKit
set_option linter.unusedVariables false
set_option maxRecDepth 100000
set_option maxHeartbeats 4000000
theorem reach_lt:reachBytes≤140737488351232:=by decide
theorem cellsI:Tryd.prog.cellsOf 3=1:=by kernel_rfl
theorem bytesI:Tryd.prog.bytesOf 3=8:=by kernel_rfl
def listed:List (String × DataW Unit):= [("math/bits.deBruijn32tab",Rows.laid_math_bits_deBruijn32tab),("math/bits.deBruijn64tab",Rows.laid_math_bits_deBruijn64tab),("internal/strconv.uint64pow10",Rows.laid_internal_strconv_uint64pow10),("unicode/utf8.acceptRanges",Rows.laid_unicode_utf8_acceptRanges),("strconv.ErrRange",Rows.laid_strconv_ErrRange),("strconv.ErrSyntax",Rows.laid_strconv_ErrSyntax),("unicode/utf8.first",Rows.laid_unicode_utf8_first)]
theorem listed_met (os:Os) (args:Array Value):laidMetH Tryd.prog listed ((World.laidAll Tryd.prog os listed).forCall (fun _ _=>0) ⟨#[],args,[]⟩).memory:=by
 rw[MakeChecks.laidMetH_plain _ _ _ (by kernel_rfl)]
 exact laidMet_laidAll _ (by kernel_rfl) (by kernel_rfl)
theorem listed_shaped (os:Os):(World.laidAll Tryd.prog os listed).Shaped Tryd.prog:=World.shaped_of_ZipB (by kernel_rfl) (by kernel_rfl)
theorem stand_ins {l:List TypeId} {t:TypeId} (hall:(l.all fun u=> !Tryd.prog.wantsStandIn u)=true) (h:t ∈ l):Tryd.prog.wantsStandIn t=false:=by
 have:=List.all_eq_true.1 hall t h
 simpa using this
theorem back_lifted (os:Os) (started:os.Started) (H:Type) (enc:TypeId × Value→H):
  ReturnsInHanded {} Tryd.checked os 8 .any (fun w args=>(Rows.warpBackSpec.pre enc Tryd.prog Tryd.f8 [] false w args∧laidMetH Tryd.prog listed w)∧sizedMet enc Tryd.prog Tryd.f8 (OpenSpec.ofChange Rows.warpBackSpec) false w args)
   (Rows.warpBackSpec.post enc Tryd.prog Tryd.f8 false true false false):=by
 refine returnsInHanded_of_change_and (C:=Tryd.checked) (X:=fun w _=>laidMetH Tryd.prog listed w) (fun _ _ _ hh h=>h.of_heap hh) own started (by kernel_rfl) Tryd.func8
  (ChangeSpec.witness_shaped (enc:=enc) (C:=Tryd.checked) (os:=os) (X:=fun w _=>laidMetH Tryd.prog listed w) false (World.laidAll Tryd.prog os listed) #[.slice none 0 0] 8 (World.laidAll_os _ _ _) (listed_shaped os) (by kernel_rfl) (by kernel_rfl) (by kernel_rfl) (listed_met os _)) ?_
 intro W base args ds gs before hval0 hW _ hsz0 hL _
 have hval:∀ (j:Nat) t v,Tryd.f8.params[j]? =some t→args[j]? =some v→Value.okWide Tryd.prog W .any base t v:=hval0
 have hW':=hW
 obtain ⟨p,q,hA0,hV,rfl,hfz,hnd⟩:=hW
 have hA:DataW.TrodAll enc Tryd.prog W 0 (fun _=>true) true Tryd.f8.params.toList args.toList ds p:=hA0
 have hsz:(DataW.weightsEach Tryd.prog (Tryd.f8.params.toList++Rows.warpBackSpec.plain.varTypes Tryd.prog) (ds++gs)).all (· ≤reachBytes)=true:=hsz0
 rw[Tryd.params8] at hA hval hsz
 obtain ⟨v0,vs0,d0,ds0,p0,q0,hargs,rfl,rfl,h0,r0⟩:=trodAll_cons hA
 obtain ⟨rfl,rfl,rfl⟩:=trodAll_nil r0
 obtain rfl:args=#[v0]:=by cases args;simp_all
 have hr:=reach_lt
 obtain ⟨l0,hl0,hl00,hli0,hlw0,hlr0⟩:=rd_ints Tryd.underlying22 Tryd.underlying3 cellsI (by rw[bytesI];decide) (hval 0 22 v0 rfl rfl) h0 (weights_at (j:=0) hsz rfl rfl)
 rw[bytesI] at hlr0
 have hv0:VRep (wOld (oldOf W)) (.sl 3 l0.length (l0.map iD)) v0:=vrep_old iD (hl0 []) hl00 (slice_v Tryd.underlying22 (hval 0 22 v0 rfl rfl) h0) (fun z _=>by simp only[iD,DRep,scOK,and_self])
 have hLm:laidMet Tryd.prog listed W:=by rw[← MakeChecks.laidMetH_plain _ _ _ (by kernel_rfl)];exact hL
 have htab:Tab W:=laid_tab hLm 2 rfl (g:=3) (t:=135) (e:=108) (k:= .u64) (m:=20) (by kernel_rfl) (by kernel_rfl) Tryd.underlying135 Tryd.underlying108 (by kernel_rfl) (by kernel_rfl) rfl
 have hesy:(errO Tryd.prog W "strconv.ErrSyntax").isSome=true:=laid_errO hLm 5 rfl (g:=1) (t:=70) (by kernel_rfl) (by kernel_rfl) Tryd.underlying70
 have herr:(errO Tryd.prog W "strconv.ErrRange").isSome=true:=laid_errO hLm 4 rfl (g:=2) (t:=70) (by kernel_rfl) (by kernel_rfl) Tryd.underlying70
 obtain ⟨s',hbody⟩:=law_v (old:=oldOf W) (rounds:=many) (fns:=fns) (prims:=PR W) (n:=8) (af:=c8) (xs:= [.sl 3 l0.length (l0.map iD)]) (xsI:= [v0]) (x:= .bool true) (Nat.le_of_ble_eq_true rfl)
  (by simp only[VRepL];exact ⟨_,_,rfl,hv0,rfl⟩) fun C hC hn=>back_g W l0 (by omega) hesy herr hC hn
 have hfn:fns 8=some c8:=rfl
 have hrv:ids 0 (.bool true)= []:=rfl
 refine (law_of htab (f:=8) (af:=c8) hfn (xs:= [v0]) (by simp only[idsL_cons,hli0];rfl) _ hbody hrv).mono fun e W' ⟨he,hbe⟩=>?_
 exact ⟨_,he,law_post hW' rfl rfl (by kernel_rfl) (by kernel_rfl) Tryd.underlying4 hbe⟩
theorem back_over:Rows.WarpBackSaid:=
 OpenClaim.holds_of_wide 8 Tryd.f8 rfl rfl rfl rfl rfl rfl rfl ⟨rfl,rfl,rfl,rfl,rfl⟩ rfl rfl rfl rfl rfl (by kernel_rfl) Tryd.func8 (by kernel_rfl)
  (of_decide_eq_true (by kernel_rfl)) (by unfold Func.isWrapper;first|(rw[if_pos (by decide+kernel)];kernel_rfl)|(rw[if_neg (by decide+kernel)];exact ⟨rfl,rfl⟩))
  (fun os started H enc _=>back_lifted os started H enc)
theorem back_holds:Rows.WarpBackCardSaid:=
 Claim7.holds_tied_plain_at .later [] [.data,.data,.data,.data,.sentinel,.sentinel,.pinned] true _ true
  back_over (fun _ h=>by cases h) (by kernel_rfl) (fun _ h=>by cases h) warpBack_row_tie rfl ⟨rfl,rfl⟩ (by kernel_rfl) rfl
  (fun f fn hf hfn=>by
   obtain rfl:f=8:=Option.some.inj ((show Tryd.prog.funcNamed "raddle/raddlelaw22.WarpBack"=some 8 by kernel_rfl).symm.trans hf)|>.symm
   obtain rfl:fn=Tryd.f8:=(Option.some.inj (Tryd.func8.symm.trans hfn)).symm
   exact ⟨by kernel_rfl,fun j t ht=>stand_ins (l:= [22]) (by kernel_rfl) (by rw[Tryd.params8] at ht;simpa using Array.mem_of_getElem? ht)⟩)
  (by kernel_rfl)
#print axioms back_holds
end Go.Proofs.YtgglaaldlegckaaDoor
