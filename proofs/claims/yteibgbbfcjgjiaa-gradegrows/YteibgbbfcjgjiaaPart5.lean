/- Part of the proof of GradeGrows: for every table, all numbers and every string the law returns true, with no condition.
   Texts: C40VA, H40V, G40a, G40b, G40c, G40d, O40s, O40a, O40b, O40c, O40d, O40e, O40f, O40g, O40h, O40i, O40l, X40a, X40b, X40c, X40d, X40e, X40f, X40g, X40h, X40i.
-/
import Derived.Test.YteibgbbfcjgjiaaPart4
import Derived.KernelRfl
import Derived.Test.YteibgbbfcjgjiaaProg
namespace Go.Proofs.Yteibgbbfcjgjiaa
open Go Go.Itp
set_option maxRecDepth 100000
set_option maxHeartbeats 40000000
noncomputable section
abbrev gzI:List Nat:= [22,34,35,38]
theorem gk {n:Nat} {f:Func} {a:AFun} (h1:Try.prog.funcs[n]? =some f) (h2:(f.name== "runtime.NumGoroutine")=false:=by kernel_rfl) (h:gzT Try.prog f a.code=some (a.code,a.n,a.res):=by kernel_rfl):FunOK Try.prog n a:=gok h1 h2 h
def c4r:AFun:=gzx Try.prog gzI true Try.f4
def c4l0:AC:=gzl c4r 0 []
attribute [local irreducible] c4l0
def c4:AFun:=gzn c4r [c4l0]
def c5r:AFun:=gzx Try.prog gzI true Try.f5
def c5l0:AC:=gzl c5r 2 []
attribute [local irreducible] c5l0
def c5l1:AC:=gzl c5r 1 []
attribute [local irreducible] c5l1
def c5l2:AC:=gzl c5r 0 []
attribute [local irreducible] c5l2
def c5:AFun:=gzn c5r [c5l2,c5l1,c5l0]
def c10r:AFun:=gzx Try.prog gzI true Try.f10
def c10l0:AC:=gzl c10r 1 []
attribute [local irreducible] c10l0
def c10l1:AC:=gzl c10r 0 [c10l0]
attribute [local irreducible] c10l1
def c10:AFun:=gzn c10r [c10l1,c10l0]
def c11r:AFun:=gzx Try.prog gzI true Try.f11
def c11l0:AC:=gzl c11r 0 []
attribute [local irreducible] c11l0
def c11:AFun:=gzn c11r [c11l0]
def c12r:AFun:=gzx Try.prog gzI true Try.f12
def c12l0:AC:=gzl c12r 0 []
attribute [local irreducible] c12l0
def c12:AFun:=gzn c12r [c12l0]
def c13r:AFun:=gzx Try.prog gzI true Try.f13
def c13l0:AC:=gzl c13r 0 []
attribute [local irreducible] c13l0
def c13:AFun:=gzn c13r [c13l0]
def c14:AFun:=gzx Try.prog gzI true Try.f14
def c15:AFun:=gzx Try.prog gzI true Try.f15
def c16r:AFun:=gzx Try.prog gzI true Try.f16
def c16l0:AC:=gzl c16r 0 []
attribute [local irreducible] c16l0
def c16:AFun:=gzn c16r [c16l0]
def c17r:AFun:=gzx Try.prog gzI true Try.f17
def c17l0:AC:=gzl c17r 0 []
attribute [local irreducible] c17l0
def c17:AFun:=gzn c17r [c17l0]
def c18:AFun:=gzx Try.prog gzI true Try.f18
def c19r:AFun:=gzx Try.prog gzI true Try.f19
def c19l0:AC:=gzl c19r 1 []
attribute [local irreducible] c19l0
def c19l1:AC:=gzl c19r 0 [c19l0]
attribute [local irreducible] c19l1
def c19:AFun:=gzn c19r [c19l1,c19l0]
def c20r:AFun:=gzx Try.prog gzI true Try.f20
def c20l0:AC:=gzl c20r 0 []
attribute [local irreducible] c20l0
def c20:AFun:=gzn c20r [c20l0]
def c21r:AFun:=gzx Try.prog gzI true Try.f21
def c21l0:AC:=gzl c21r 2 []
attribute [local irreducible] c21l0
def c21l1:AC:=gzl c21r 1 []
attribute [local irreducible] c21l1
def c21l2:AC:=gzl c21r 0 []
attribute [local irreducible] c21l2
def c21:AFun:=gzn c21r [c21l2,c21l1,c21l0]
def c22r:AFun:=gzx Try.prog gzI false Try.f22
def c22l0:AC:=gzl c22r 3 []
attribute [local irreducible] c22l0
def c22l1:AC:=gzl c22r 2 []
attribute [local irreducible] c22l1
def c22l2:AC:=gzl c22r 1 []
attribute [local irreducible] c22l2
def c22l3:AC:=gzl c22r 0 [c22l2]
attribute [local irreducible] c22l3
def c22:AFun:=gzn c22r [c22l3,c22l2,c22l1,c22l0]
def c23r:AFun:=gzx Try.prog gzI true Try.f23
def c23l0:AC:=gzl c23r 0 []
attribute [local irreducible] c23l0
def c23:AFun:=gzn c23r [c23l0]
def c24r:AFun:=gzx Try.prog gzI true Try.f24
def c24l0:AC:=gzl c24r 0 []
attribute [local irreducible] c24l0
def c24:AFun:=gzn c24r [c24l0]
def c25r:AFun:=gzx Try.prog gzI true Try.f25
def c25l0:AC:=gzl c25r 0 []
attribute [local irreducible] c25l0
def c25:AFun:=gzn c25r [c25l0]
def c26r:AFun:=gzx Try.prog gzI true Try.f26
def c26l0:AC:=gzl c26r 0 []
attribute [local irreducible] c26l0
def c26:AFun:=gzn c26r [c26l0]
def c27r:AFun:=gzx Try.prog gzI true Try.f27
def c27l0:AC:=gzl c27r 0 []
attribute [local irreducible] c27l0
def c27:AFun:=gzn c27r [c27l0]
def c28r:AFun:=gzx Try.prog gzI true Try.f28
def c28l0:AC:=gzl c28r 0 []
attribute [local irreducible] c28l0
def c28:AFun:=gzn c28r [c28l0]
def c29:AFun:=gzx Try.prog gzI true Try.f29
def c30:AFun:=gzx Try.prog gzI true Try.f30
def c31:AFun:=gzx Try.prog gzI true Try.f31
def c32:AFun:=gzx Try.prog gzI true Try.f32
def c33r:AFun:=gzx Try.prog gzI true Try.f33
def c33l0:AC:=gzl c33r 0 []
attribute [local irreducible] c33l0
def c33:AFun:=gzn c33r [c33l0]
def c34r:AFun:=gzx Try.prog gzI false Try.f34
def c34l0:AC:=gzl c34r 0 []
attribute [local irreducible] c34l0
def c34:AFun:=gzn c34r [c34l0]
def c35r:AFun:=gzx Try.prog gzI false Try.f35
def c35l0:AC:=gzl c35r 0 []
attribute [local irreducible] c35l0
def c35:AFun:=gzn c35r [c35l0]
def c36r:AFun:=gzx Try.prog gzI true Try.f36
def c36l0:AC:=gzl c36r 0 []
attribute [local irreducible] c36l0
def c36:AFun:=gzn c36r [c36l0]
def c37r:AFun:=gzx Try.prog gzI true Try.f37
def c37l0:AC:=gzl c37r 0 []
attribute [local irreducible] c37l0
def c37:AFun:=gzn c37r [c37l0]
def c38:AFun:=gzx Try.prog gzI false Try.f38
def c39:AFun:=gzx Try.prog gzI true Try.f39
def c40:AFun:=gzx Try.prog gzI true Try.f40
def fns:FuncId→Option AFun
 |4=>some c4
 |5=>some c5
 |10=>some c10
 |11=>some c11
 |12=>some c12
 |13=>some c13
 |14=>some c14
 |15=>some c15
 |16=>some c16
 |17=>some c17
 |18=>some c18
 |19=>some c19
 |20=>some c20
 |21=>some c21
 |22=>some c22
 |23=>some c23
 |24=>some c24
 |25=>some c25
 |26=>some c26
 |27=>some c27
 |28=>some c28
 |29=>some c29
 |30=>some c30
 |31=>some c31
 |32=>some c32
 |33=>some c33
 |34=>some c34
 |35=>some c35
 |36=>some c36
 |37=>some c37
 |38=>some c38
 |39=>some c39
 |40=>some c40
 |_=>none
theorem fns_ok:FunsOK Try.prog fns:=by
 intro f af h
 unfold fns at h
 split at h
 ·cases h;exact gk Try.func4
 ·cases h;exact gk Try.func5
 ·cases h;exact gk Try.func10
 ·cases h;exact gk Try.func11
 ·cases h;exact gk Try.func12
 ·cases h;exact gk Try.func13
 ·cases h;exact gk Try.func14
 ·cases h;exact gk Try.func15
 ·cases h;exact gk Try.func16
 ·cases h;exact gk Try.func17
 ·cases h;exact gk Try.func18
 ·cases h;exact gk Try.func19
 ·cases h;exact gk Try.func20
 ·cases h;exact gk Try.func21
 ·cases h;exact gk Try.func22
 ·cases h;exact gk Try.func23
 ·cases h;exact gk Try.func24
 ·cases h;exact gk Try.func25
 ·cases h;exact gk Try.func26
 ·cases h;exact gk Try.func27
 ·cases h;exact gk Try.func28
 ·cases h;exact gk Try.func29
 ·cases h;exact gk Try.func30
 ·cases h;exact gk Try.func31
 ·cases h;exact gk Try.func32
 ·cases h;exact gk Try.func33
 ·cases h;exact gk Try.func34
 ·cases h;exact gk Try.func35
 ·cases h;exact gk Try.func36
 ·cases h;exact gk Try.func37
 ·cases h;exact gk Try.func38
 ·cases h;exact gk Try.func39
 ·cases h;exact gk Try.func40
 ·cases h
end
end Go.Proofs.Yteibgbbfcjgjiaa
namespace Go.Proofs.Yteibgbbfcjgjiaa
open Go Go.Itp
open Go.RowKit (Below)
set_option linter.unusedVariables false
set_option maxRecDepth 100000
theorem own:ownKnob Try.prog.godebug=none:=by kernel_rfl
theorem mixed:Try.prog.follows .mixedOrders=true:=by kernel_rfl
def prims0:List (FuncId × Prim × TypeId):= []
theorem prims_all:AllPrims Try.prog prims0:=trivial
abbrev PR (w:World):FuncId→List Value→St→Option (Value × List Blk):=primsOf prims0
noncomputable abbrev EN (w:World) (n:Nat):Env:=callP (oldOf w) many fns (PR w) n
theorem prims_ok (W:World):PrimsOK Try.prog (PR W) W:=primsOf_ok prims0 prims_all W
end Go.Proofs.Yteibgbbfcjgjiaa
namespace Go.Proofs.Yteibgbbfcjgjiaa
open Go Go.Itp
set_option maxRecDepth 100000
set_option maxHeartbeats 1000000
set_option linter.unusedSimpArgs false
set_option linter.unusedVariables false
abbrev strV (l:List UInt8):V:= .sc (.string ⟨l.toArray⟩)
abbrev strs (s:Nat) (l:List (List UInt8)):V:= .sl s l.length (l.map sD)
theorem lt_succ_cases {P:Nat→Prop} {k:Nat} (h:∀ j,j<k→P j) (hk:P k):∀ j,j<k+1→P j:=fun j hj=>by
 rcases Nat.lt_or_eq_of_le (Nat.le_of_lt_succ hj) with h1|h1
 ·exact h j h1
 ·subst h1;exact hk
def wch (b:UInt8):Bool:=decide (¬ (((b.toNat:Nat):Int) ≠ 45∧(((b.toNat:Nat):Int)<97∨122<((b.toNat:Nat):Int))∧(((b.toNat:Nat):Int)<48∨57<((b.toNat:Nat):Int))))
def wordS (s:List UInt8):Bool:=decide (1≤s.length∧s.length≤40∧∀ j,j<s.length→wch s[j]! =true)
theorem wch_def (b:UInt8):wch b=true↔¬ (((b.toNat:Nat):Int) ≠ 45∧(((b.toNat:Nat):Int)<97∨122<((b.toNat:Nat):Int))∧(((b.toNat:Nat):Int)<48∨57<((b.toNat:Nat):Int))):=decide_eq_true_iff
def s2bV (nx:Nat) (t:TypeId):V→VO
 | .sc (.string b)=>if Nat.ble b.size room then some (.ref nx 0 b.size (big+b.size),some (.row t 1 true false (b.data.toList.map fun b=> .sc (.int .u8 b.toNat))),[]) else none
 |_=>none
theorem pv_s2b {old:Nat→Nat→Option Value} {fr:VFr} {H:VHp} {nx:Nat} (t:TypeId) (x:Operand):vpstep old fr H nx (.s2b t x)=op1 (s2bV nx t) (vev fr x):=by
 simp only[vpstep,op1]
 cases vev fr x with
 |none=>rfl
 |some v=>cases v<;>first|rfl|(rename_i c;cases c<;>rfl)
theorem s2bV_str (nx t:Nat) (l:List UInt8) (h:l.length≤1000000000):s2bV nx t (strV l)=some (.ref nx 0 l.length (big+l.length),some (.row t 1 true false (l.map Itp.bD)),[]):=by
 have h1:=mk_size l
 show (if Nat.ble (ByteArray.mk l.toArray).size room then _ else _)=_
 rw[if_pos (by rw[Nat.ble_eq,h1];unfold room;omega),h1]
 rfl
theorem bD8_dv (b:UInt8):dv (Itp.bD b)= .sc (.int .u8 b.toNat):=(rfl)
def placeG (l:List (List UInt8)) (x:List UInt8):Nat→Int
 |0=> -1
 |k+1=>if 0≤placeG l x k then placeG l x k else if l[k]! =x then k else -1
theorem placeG_range (l:List (List UInt8)) (x:List UInt8):∀ k,-1≤placeG l x k∧placeG l x k<k
 |0=>by simp[placeG]
 |k+1=>by
  have:=placeG_range l x k
  rw[placeG]
  split
  ·omega
  ·split<;>omega
theorem placeG_none {l:List (List UInt8)} {x:List UInt8}:∀ k,(∀ j,j<k→¬ l[j]! =x)→placeG l x k= -1
 |0,_=>rfl
 |k+1,h=>by rw[placeG,placeG_none k (fun j hj=>h j (by omega)),if_neg (by omega),if_neg (h k (by omega))]
theorem placeG_some {l:List (List UInt8)} {x:List UInt8} {i:Nat} (hi:l[i]! =x) (h:∀ j,j<i→¬ l[j]! =x):∀ k,i<k→placeG l x k=i
 |0,h=>by omega
 |k+1,hk=>by
  rw[placeG]
  by_cases e:i=k
  ·subst e;rw[placeG_none i h,if_neg (by omega),if_pos hi]
  ·rw[placeG_some hi h k (by omega),if_pos (by omega)]
section
variable (w:World) (n:Nat)
theorem word_p (s:List UInt8) (hs:s.length≤100000000):VSpec (EN w (n+1)) 36 [strV s] (.sc (.bool (wordS s))) ⟨[],0,0⟩:=by
 refine vspec_flat rfl rfl (fun _ _=>rfl) (Nat.le_of_ble_eq_true rfl) (oldVals w) rfl fun C hC h0=>?_
 have hsz:=mk_size s
 by_cases hl0:s.length=0
 ·have e:wordS s=false:=decide_eq_false (by omega)
  rw[e]
  repeat' (first|(simp (disch:=first|omega|assumption|exact bd (by with_unfolding_all rfl)|exact Or.inl rfl|exact Or.inl trivial|exact okL_map _ (fun _=>rfl) _|(simp only[VVlen]<;>omega)|fail) only[VV0,VV1,VV2,VV3,VV4,VV5,VV6,VV7,VV8,VV9,mkFnV,vargs,slotsL,opdsA,Nat.reduceEqDiff,Nat.reduceLT,Nat.reduceAdd,Nat.reduceBEq,Int.reduceAdd,Int.reduceSub,Int.reduceLT,Int.reduceLE,Int.reduceEq,Int.reduceNeg,↓reduceIte,reduceCtorEq,scL,scD,expand,List.replicate,c36])|apply gC_drawW|((first|apply gI_dec|apply gG_dec|apply gPG_dec|apply gI_var|apply gG_var|apply gPG_var)<;>intro _))
  all_goals try (exfalso;omega)
  exact weak_flat rfl h0 rfl
 by_cases hl4:40<s.length
 ·have e:wordS s=false:=decide_eq_false (by omega)
  rw[e]
  repeat' (first|(simp (disch:=first|omega|assumption|exact bd (by with_unfolding_all rfl)|exact Or.inl rfl|exact Or.inl trivial|exact okL_map _ (fun _=>rfl) _|(simp only[VVlen]<;>omega)|fail) only[VV0,VV1,VV2,VV3,VV4,VV5,VV6,VV7,VV8,VV9,mkFnV,vargs,slotsL,opdsA,Nat.reduceEqDiff,Nat.reduceLT,Nat.reduceAdd,Nat.reduceBEq,Int.reduceAdd,Int.reduceSub,Int.reduceLT,Int.reduceLE,Int.reduceEq,Int.reduceNeg,↓reduceIte,reduceCtorEq,scL,scD,expand,List.replicate,c36])|apply gC_drawW|((first|apply gI_dec|apply gG_dec|apply gPG_dec|apply gI_var|apply gG_var|apply gPG_var)<;>intro _))
  all_goals try (exfalso;omega)
  exact weak_flat rfl h0 rfl
 have hsb:=fun nx t=>s2bV_str nx t s (by omega)
 have hsm:(s.map Itp.bD).length=s.length:=by rw[List.length_map]
 repeat' (first|(simp (disch:=first|omega|assumption|exact bd (by with_unfolding_all rfl)|exact Or.inl rfl|exact Or.inl trivial|exact okL_map _ (fun _=>rfl) _|(simp only[VVlen]<;>omega)|fail) only[VV0,VV1,VV2,VV3,VV4,VV5,VV6,VV7,VV8,VV9,mkFnV,vargs,slotsL,opdsA,Nat.reduceEqDiff,Nat.reduceLT,Nat.reduceAdd,Nat.reduceBEq,Int.reduceAdd,Int.reduceSub,Int.reduceLT,Int.reduceLE,Int.reduceEq,Int.reduceNeg,↓reduceIte,reduceCtorEq,scL,scD,expand,List.replicate,c36,pv_s2b,hsb])|apply gC_drawW|((first|apply gI_dec|apply gG_dec|apply gPG_dec|apply gI_var|apply gG_var|apply gPG_var)<;>intro _))
 all_goals try (exfalso;omega)
 refine g_while (fun m fr st=>∃ k:Nat,m=s.length - k∧k≤s.length∧fr= [(14,.ref 0 0 s.length (big+s.length)),(15,.sc (.int .i64 s.length)),(16,.sc (.int .i64 k))]∧st=⟨[(0,.row 5 1 true false (s.map Itp.bD))],1,0⟩∧∀ j,j<k→wch s[j]! =true) s.length ?_ ⟨_,_,.refl _ _,0,by omega,Nat.zero_le _,rfl,rfl,by omega⟩ ?_
 ·rw[hC,callP_rounds];unfold many;omega
 rintro m fr st ⟨k,rfl,hk,rfl,rfl,hj⟩
 by_cases hlt:k<s.length
 ·have hd:=wch_def s[k]!
  by_cases hw:wch s[k]! =true
  ·have hj2:=lt_succ_cases hj hw
   have hd:=hd.1 hw
   generalize hB:s[k]! =B at*
   repeat' (first|(simp (disch:=first|omega|assumption|exact bd (by with_unfolding_all rfl)|exact Or.inl rfl|exact Or.inl trivial|exact okL_map _ (fun _=>rfl) _|(simp only[VVlen]<;>omega)|fail) only[VV0,VV1,VV2,VV3,VV4,VV5,VV6,VV7,VV8,VV9,mkFnV,vargs,slotsL,opdsA,Nat.reduceEqDiff,Nat.reduceLT,Nat.reduceAdd,Nat.reduceBEq,Int.reduceAdd,Int.reduceSub,Int.reduceLT,Int.reduceLE,Int.reduceEq,Int.reduceNeg,↓reduceIte,reduceCtorEq,scL,scD,expand,List.replicate,c36l0,bD8_dv,hB])|apply gC_drawW|((first|apply gI_dec|apply gG_dec|apply gPG_dec|apply gI_var|apply gG_var|apply gPG_var)<;>intro _))
   all_goals try (exfalso;omega)
   all_goals exact ⟨_,_,_,by omega,.refl _ _,k+1,rfl,hlt,rfl,rfl,hj2⟩
  ·have e:wordS s=false:=decide_eq_false fun h=>hw (h.2.2 k hlt)
   have hd:=mt hd.2 hw
   rw[e]
   generalize hB:s[k]! =B at*
   repeat' (first|(simp (disch:=first|omega|assumption|exact bd (by with_unfolding_all rfl)|exact Or.inl rfl|exact Or.inl trivial|exact okL_map _ (fun _=>rfl) _|(simp only[VVlen]<;>omega)|fail) only[VV0,VV1,VV2,VV3,VV4,VV5,VV6,VV7,VV8,VV9,mkFnV,vargs,slotsL,opdsA,Nat.reduceEqDiff,Nat.reduceLT,Nat.reduceAdd,Nat.reduceBEq,Int.reduceAdd,Int.reduceSub,Int.reduceLT,Int.reduceLE,Int.reduceEq,Int.reduceNeg,↓reduceIte,reduceCtorEq,scL,scD,expand,List.replicate,c36l0,bD8_dv,hB])|apply gC_drawW|((first|apply gI_dec|apply gG_dec|apply gPG_dec|apply gI_var|apply gG_var|apply gPG_var)<;>intro _))
   all_goals try (exfalso;omega)
   all_goals exact weak_flat rfl h0 rfl
 ·have:k=s.length:=by omega
  subst this
  have e:wordS s=true:=decide_eq_true ⟨by omega,by omega,hj⟩
  rw[e]
  repeat' (first|(simp (disch:=first|omega|assumption|exact bd (by with_unfolding_all rfl)|exact Or.inl rfl|exact Or.inl trivial|exact okL_map _ (fun _=>rfl) _|(simp only[VVlen]<;>omega)|fail) only[VV0,VV1,VV2,VV3,VV4,VV5,VV6,VV7,VV8,VV9,mkFnV,vargs,slotsL,opdsA,Nat.reduceEqDiff,Nat.reduceLT,Nat.reduceAdd,Nat.reduceBEq,Int.reduceAdd,Int.reduceSub,Int.reduceLT,Int.reduceLE,Int.reduceEq,Int.reduceNeg,↓reduceIte,reduceCtorEq,scL,scD,expand,List.replicate,c36l0])|apply gC_drawW|((first|apply gI_dec|apply gG_dec|apply gPG_dec|apply gI_var|apply gG_var|apply gPG_var)<;>intro _))
  exact weak_flat rfl h0 rfl
theorem rword_p (s:List UInt8) (hs:s.length≤100000000):VSpec (EN w (n+1)) 37 [strV s] (.sc (.bool (wordS s))) ⟨[],0,0⟩:=by
 refine vspec_flat rfl rfl (fun _ _=>rfl) (Nat.le_of_ble_eq_true rfl) (oldVals w) rfl fun C hC h0=>?_
 have hsz:=mk_size s
 repeat' (first|(simp (disch:=first|omega|assumption|exact bd (by with_unfolding_all rfl)|exact Or.inl rfl|exact Or.inl trivial|exact okL_map _ (fun _=>rfl) _|(simp only[VVlen]<;>omega)|fail) only[VV0,VV1,VV2,VV3,VV4,VV5,VV6,VV7,VV8,VV9,mkFnV,vargs,slotsL,opdsA,Nat.reduceEqDiff,Nat.reduceLT,Nat.reduceAdd,Nat.reduceBEq,Int.reduceAdd,Int.reduceSub,Int.reduceLT,Int.reduceLE,Int.reduceEq,Int.reduceNeg,↓reduceIte,reduceCtorEq,scL,scD,expand,List.replicate,c37])|apply gC_drawW|((first|apply gI_dec|apply gG_dec|apply gPG_dec|apply gI_var|apply gG_var|apply gPG_var)<;>intro _))
 refine g_while (fun m fr st=>∃ k:Nat,m=s.length - k∧k≤s.length∧fr= [(0,strV s),(3,.sc (.int .i64 k))]∧st=⟨[],0,0⟩∧∀ j,j<k→wch s[j]! =true) s.length ?_ ⟨_,_,.refl _ _,0,by omega,Nat.zero_le _,rfl,rfl,by omega⟩ ?_
 ·rw[hC,callP_rounds];unfold many;omega
 rintro m fr st ⟨k,rfl,hk,rfl,rfl,hj⟩
 by_cases hlt:k<s.length
 ·have hd:=wch_def s[k]!
  have hb:=idxStr_l s .i64 k (by omega) (by omega)
  rw[Int.toNat_natCast] at hb
  by_cases hw:wch s[k]! =true
  ·have hj2:=lt_succ_cases hj hw
   have hd:=hd.1 hw
   generalize s[k]!.toNat=b at*
   repeat' (first|(simp (disch:=first|omega|assumption|exact bd (by with_unfolding_all rfl)|exact Or.inl rfl|exact Or.inl trivial|exact okL_map _ (fun _=>rfl) _|(simp only[VVlen]<;>omega)|fail) only[VV0,VV1,VV2,VV3,VV4,VV5,VV6,VV7,VV8,VV9,mkFnV,vargs,slotsL,opdsA,Nat.reduceEqDiff,Nat.reduceLT,Nat.reduceAdd,Nat.reduceBEq,Int.reduceAdd,Int.reduceSub,Int.reduceLT,Int.reduceLE,Int.reduceEq,Int.reduceNeg,↓reduceIte,reduceCtorEq,scL,scD,expand,List.replicate,c37l0,hb])|apply gC_drawW|((first|apply gI_dec|apply gG_dec|apply gPG_dec|apply gI_var|apply gG_var|apply gPG_var)<;>intro _))
   all_goals try (exfalso;omega)
   all_goals exact ⟨_,_,_,by omega,.refl _ _,k+1,rfl,hlt,rfl,rfl,hj2⟩
  ·have e:wordS s=false:=decide_eq_false fun h=>hw (h.2.2 k hlt)
   have hd:=mt hd.2 hw
   rw[e]
   generalize s[k]!.toNat=b at*
   repeat' (first|(simp (disch:=first|omega|assumption|exact bd (by with_unfolding_all rfl)|exact Or.inl rfl|exact Or.inl trivial|exact okL_map _ (fun _=>rfl) _|(simp only[VVlen]<;>omega)|fail) only[VV0,VV1,VV2,VV3,VV4,VV5,VV6,VV7,VV8,VV9,mkFnV,vargs,slotsL,opdsA,Nat.reduceEqDiff,Nat.reduceLT,Nat.reduceAdd,Nat.reduceBEq,Int.reduceAdd,Int.reduceSub,Int.reduceLT,Int.reduceLE,Int.reduceEq,Int.reduceNeg,↓reduceIte,reduceCtorEq,scL,scD,expand,List.replicate,c37l0,hb])|apply gC_drawW|((first|apply gI_dec|apply gG_dec|apply gPG_dec|apply gI_var|apply gG_var|apply gPG_var)<;>intro _))
   all_goals try (exfalso;omega)
   all_goals exact weak_flat rfl h0 rfl
 ·have:k=s.length:=by omega
  subst this
  by_cases h1:1≤s.length∧s.length≤40
  ·have e:wordS s=true:=decide_eq_true ⟨h1.1,h1.2,hj⟩
   rw[e]
   repeat' (first|(simp (disch:=first|omega|assumption|exact bd (by with_unfolding_all rfl)|exact Or.inl rfl|exact Or.inl trivial|exact okL_map _ (fun _=>rfl) _|(simp only[VVlen]<;>omega)|fail) only[VV0,VV1,VV2,VV3,VV4,VV5,VV6,VV7,VV8,VV9,mkFnV,vargs,slotsL,opdsA,Nat.reduceEqDiff,Nat.reduceLT,Nat.reduceAdd,Nat.reduceBEq,Int.reduceAdd,Int.reduceSub,Int.reduceLT,Int.reduceLE,Int.reduceEq,Int.reduceNeg,↓reduceIte,reduceCtorEq,scL,scD,expand,List.replicate,c37l0])|apply gC_drawW|((first|apply gI_dec|apply gG_dec|apply gPG_dec|apply gI_var|apply gG_var|apply gPG_var)<;>intro _))
   all_goals try (exfalso;omega)
   exact weak_flat rfl h0 rfl
  ·have e:wordS s=false:=decide_eq_false fun h=>h1 ⟨h.1,h.2.1⟩
   rw[e]
   repeat' (first|(simp (disch:=first|omega|assumption|exact bd (by with_unfolding_all rfl)|exact Or.inl rfl|exact Or.inl trivial|exact okL_map _ (fun _=>rfl) _|(simp only[VVlen]<;>omega)|fail) only[VV0,VV1,VV2,VV3,VV4,VV5,VV6,VV7,VV8,VV9,mkFnV,vargs,slotsL,opdsA,Nat.reduceEqDiff,Nat.reduceLT,Nat.reduceAdd,Nat.reduceBEq,Int.reduceAdd,Int.reduceSub,Int.reduceLT,Int.reduceLE,Int.reduceEq,Int.reduceNeg,↓reduceIte,reduceCtorEq,scL,scD,expand,List.replicate,c37l0])|apply gC_drawW|((first|apply gI_dec|apply gG_dec|apply gPG_dec|apply gI_var|apply gG_var|apply gPG_var)<;>intro _))
   all_goals try (exfalso;omega)
   all_goals exact weak_flat rfl h0 rfl
theorem gix_p (s:Nat) (l:List (List UInt8)) (x:List UInt8) (hl:l.length≤100000000):VSpec (EN w (n+1)) 23 [strs s l,strV x] (.sc (.int .i64 (placeG l x l.length))) ⟨[],0,0⟩:=by
 refine vspec_flat rfl rfl (fun _ _=>rfl) (Nat.le_of_ble_eq_true rfl) (oldVals w) rfl fun C hC h0=>?_
 repeat' (first|(simp (disch:=first|omega|assumption|exact bd (by with_unfolding_all rfl)|exact Or.inl rfl|exact Or.inl trivial|exact okL_map _ (fun _=>rfl) _|(simp only[VVlen]<;>omega)|fail) only[VV0,VV1,VV2,VV3,VV4,VV5,VV6,VV7,VV8,VV9,mkFnV,vargs,slotsL,opdsA,Nat.reduceEqDiff,Nat.reduceLT,Nat.reduceAdd,Nat.reduceBEq,Int.reduceAdd,Int.reduceSub,Int.reduceLT,Int.reduceLE,Int.reduceEq,Int.reduceNeg,↓reduceIte,reduceCtorEq,scL,scD,expand,List.replicate,c23])|apply gC_drawW|((first|apply gI_dec|apply gG_dec|apply gPG_dec|apply gI_var|apply gG_var|apply gPG_var)<;>intro _))
 refine g_while (fun m fr st=>∃ k:Nat,m=l.length - k∧k≤l.length∧fr= [(1,strV x),(7,strs s l),(8,.sc (.int .i64 l.length)),(9,.sc (.int .i64 k))]∧st=⟨[],0,0⟩∧∀ j,j<k→¬ l[j]! =x) l.length ?_ ⟨_,_,.refl _ _,0,by omega,Nat.zero_le _,rfl,rfl,by omega⟩ ?_
 ·rw[hC,callP_rounds];unfold many;omega
 rintro m fr st ⟨k,rfl,hk,rfl,rfl,hj⟩
 by_cases hlt:k<l.length
 ·by_cases hx:l[k]! =x
  ·rw[placeG_some hx hj l.length hlt]
   have hx2:x=l[k]! :=hx.symm
   repeat' (first|(simp (disch:=first|omega|assumption|exact bd (by with_unfolding_all rfl)|exact Or.inl rfl|exact Or.inl trivial|exact okL_map _ (fun _=>rfl) _|(simp only[VVlen]<;>omega)|fail) only[VV0,VV1,VV2,VV3,VV4,VV5,VV6,VV7,VV8,VV9,mkFnV,vargs,slotsL,opdsA,Nat.reduceEqDiff,Nat.reduceLT,Nat.reduceAdd,Nat.reduceBEq,Int.reduceAdd,Int.reduceSub,Int.reduceLT,Int.reduceLE,Int.reduceEq,Int.reduceNeg,↓reduceIte,reduceCtorEq,scL,scD,expand,List.replicate,c23l0,sD_dv,mk_inj,hx])|apply gC_drawW|((first|apply gI_dec|apply gG_dec|apply gPG_dec|apply gI_var|apply gG_var|apply gPG_var)<;>intro _))
   all_goals try (exfalso;omega)
   all_goals exact weak_flat rfl h0 rfl
  ·have hx2:¬ x=l[k]! :=fun h=>hx h.symm
   repeat' (first|(simp (disch:=first|omega|assumption|exact bd (by with_unfolding_all rfl)|exact Or.inl rfl|exact Or.inl trivial|exact okL_map _ (fun _=>rfl) _|(simp only[VVlen]<;>omega)|fail) only[VV0,VV1,VV2,VV3,VV4,VV5,VV6,VV7,VV8,VV9,mkFnV,vargs,slotsL,opdsA,Nat.reduceEqDiff,Nat.reduceLT,Nat.reduceAdd,Nat.reduceBEq,Int.reduceAdd,Int.reduceSub,Int.reduceLT,Int.reduceLE,Int.reduceEq,Int.reduceNeg,↓reduceIte,reduceCtorEq,scL,scD,expand,List.replicate,c23l0,sD_dv,mk_inj,hx,hx2])|apply gC_drawW|((first|apply gI_dec|apply gG_dec|apply gPG_dec|apply gI_var|apply gG_var|apply gPG_var)<;>intro _))
   all_goals try (exfalso;omega)
   all_goals exact ⟨_,_,_,by omega,.refl _ _,k+1,rfl,hlt,rfl,rfl,lt_succ_cases hj hx⟩
 ·have:k=l.length:=by omega
  subst this
  rw[placeG_none l.length hj]
  repeat' (first|(simp (disch:=first|omega|assumption|exact bd (by with_unfolding_all rfl)|exact Or.inl rfl|exact Or.inl trivial|exact okL_map _ (fun _=>rfl) _|(simp only[VVlen]<;>omega)|fail) only[VV0,VV1,VV2,VV3,VV4,VV5,VV6,VV7,VV8,VV9,mkFnV,vargs,slotsL,opdsA,Nat.reduceEqDiff,Nat.reduceLT,Nat.reduceAdd,Nat.reduceBEq,Int.reduceAdd,Int.reduceSub,Int.reduceLT,Int.reduceLE,Int.reduceEq,Int.reduceNeg,↓reduceIte,reduceCtorEq,scL,scD,expand,List.replicate,c23l0])|apply gC_drawW|((first|apply gI_dec|apply gG_dec|apply gPG_dec|apply gI_var|apply gG_var|apply gPG_var)<;>intro _))
  exact weak_flat rfl h0 rfl
theorem rindex_p (s:Nat) (l:List (List UInt8)) (x:List UInt8) (hl:l.length≤100000000):VSpec (EN w (n+1)) 24 [strs s l,strV x] (.sc (.int .i64 (placeG l x l.length))) ⟨[],0,0⟩:=by
 refine vspec_flat rfl rfl (fun _ _=>rfl) (Nat.le_of_ble_eq_true rfl) (oldVals w) rfl fun C hC h0=>?_
 repeat' (first|(simp (disch:=first|omega|assumption|exact bd (by with_unfolding_all rfl)|exact Or.inl rfl|exact Or.inl trivial|exact okL_map _ (fun _=>rfl) _|(simp only[VVlen]<;>omega)|fail) only[VV0,VV1,VV2,VV3,VV4,VV5,VV6,VV7,VV8,VV9,mkFnV,vargs,slotsL,opdsA,Nat.reduceEqDiff,Nat.reduceLT,Nat.reduceAdd,Nat.reduceBEq,Int.reduceAdd,Int.reduceSub,Int.reduceLT,Int.reduceLE,Int.reduceEq,Int.reduceNeg,↓reduceIte,reduceCtorEq,scL,scD,expand,List.replicate,c24])|apply gC_drawW|((first|apply gI_dec|apply gG_dec|apply gPG_dec|apply gI_var|apply gG_var|apply gPG_var)<;>intro _))
 refine g_while (fun m fr st=>∃ k:Nat,m=l.length - k∧k≤l.length∧fr= [(0,strs s l),(1,strV x),(5,.sc (.int .i64 k))]∧st=⟨[],0,0⟩∧∀ j,j<k→¬ l[j]! =x) l.length ?_ ⟨_,_,.refl _ _,0,by omega,Nat.zero_le _,rfl,rfl,by omega⟩ ?_
 ·rw[hC,callP_rounds];unfold many;omega
 rintro m fr st ⟨k,rfl,hk,rfl,rfl,hj⟩
 by_cases hlt:k<l.length
 ·by_cases hx:l[k]! =x
  ·rw[placeG_some hx hj l.length hlt]
   repeat' (first|(simp (disch:=first|omega|assumption|exact bd (by with_unfolding_all rfl)|exact Or.inl rfl|exact Or.inl trivial|exact okL_map _ (fun _=>rfl) _|(simp only[VVlen]<;>omega)|fail) only[VV0,VV1,VV2,VV3,VV4,VV5,VV6,VV7,VV8,VV9,mkFnV,vargs,slotsL,opdsA,Nat.reduceEqDiff,Nat.reduceLT,Nat.reduceAdd,Nat.reduceBEq,Int.reduceAdd,Int.reduceSub,Int.reduceLT,Int.reduceLE,Int.reduceEq,Int.reduceNeg,↓reduceIte,reduceCtorEq,scL,scD,expand,List.replicate,c24l0,sD_dv,mk_inj,hx])|apply gC_drawW|((first|apply gI_dec|apply gG_dec|apply gPG_dec|apply gI_var|apply gG_var|apply gPG_var)<;>intro _))
   all_goals try (exfalso;omega)
   all_goals exact weak_flat rfl h0 rfl
  ·have hx2:¬ x=l[k]! :=fun h=>hx h.symm
   repeat' (first|(simp (disch:=first|omega|assumption|exact bd (by with_unfolding_all rfl)|exact Or.inl rfl|exact Or.inl trivial|exact okL_map _ (fun _=>rfl) _|(simp only[VVlen]<;>omega)|fail) only[VV0,VV1,VV2,VV3,VV4,VV5,VV6,VV7,VV8,VV9,mkFnV,vargs,slotsL,opdsA,Nat.reduceEqDiff,Nat.reduceLT,Nat.reduceAdd,Nat.reduceBEq,Int.reduceAdd,Int.reduceSub,Int.reduceLT,Int.reduceLE,Int.reduceEq,Int.reduceNeg,↓reduceIte,reduceCtorEq,scL,scD,expand,List.replicate,c24l0,sD_dv,mk_inj,hx,hx2])|apply gC_drawW|((first|apply gI_dec|apply gG_dec|apply gPG_dec|apply gI_var|apply gG_var|apply gPG_var)<;>intro _))
   all_goals try (exfalso;omega)
   all_goals exact ⟨_,_,_,by omega,.refl _ _,k+1,rfl,hlt,rfl,rfl,lt_succ_cases hj hx⟩
 ·have:k=l.length:=by omega
  subst this
  rw[placeG_none l.length hj]
  repeat' (first|(simp (disch:=first|omega|assumption|exact bd (by with_unfolding_all rfl)|exact Or.inl rfl|exact Or.inl trivial|exact okL_map _ (fun _=>rfl) _|(simp only[VVlen]<;>omega)|fail) only[VV0,VV1,VV2,VV3,VV4,VV5,VV6,VV7,VV8,VV9,mkFnV,vargs,slotsL,opdsA,Nat.reduceEqDiff,Nat.reduceLT,Nat.reduceAdd,Nat.reduceBEq,Int.reduceAdd,Int.reduceSub,Int.reduceLT,Int.reduceLE,Int.reduceEq,Int.reduceNeg,↓reduceIte,reduceCtorEq,scL,scD,expand,List.replicate,c24l0])|apply gC_drawW|((first|apply gI_dec|apply gG_dec|apply gPG_dec|apply gI_var|apply gG_var|apply gPG_var)<;>intro _))
  exact weak_flat rfl h0 rfl
end
def wF (l:List (List UInt8)):Nat→Bool
 |0=>decide (0<l.length)
 |k+1=>wF l k && wordS l[k]!
def tF (l:List (List UInt8)):Nat→Bool
 |0=>false
 |k+1=>tF l k||decide (placeG l l[k]! l.length<k)
def wordsS (l:List (List UInt8)):Bool:=wF l l.length
def twiceS (l:List (List UInt8)):Bool:=tF l l.length
theorem wF_iff (l:List (List UInt8)):∀ k,wF l k=true↔0<l.length∧∀ j,j<k→wordS l[j]! =true
 |0=>by simp[wF]
 |k+1=>by
  rw[wF,Bool.and_eq_true,wF_iff l k]
  constructor
  ·rintro ⟨⟨h1,h2⟩,h3⟩;exact ⟨h1,lt_succ_cases h2 h3⟩
  ·rintro ⟨h1,h2⟩;exact ⟨⟨h1,fun j hj=>h2 j (by omega)⟩,h2 k (by omega)⟩
theorem tF_iff (l:List (List UInt8)):∀ k,tF l k=true↔∃ j,j<k∧placeG l l[j]! l.length<j
 |0=>by simp[tF]
 |k+1=>by
  rw[tF,Bool.or_eq_true,tF_iff l k,decide_eq_true_eq]
  constructor
  ·rintro (⟨j,h1,h2⟩|h)
   ·exact ⟨j,by omega,h2⟩
   ·exact ⟨k,by omega,h⟩
  ·rintro ⟨j,h1,h2⟩
   by_cases e:j=k
   ·subst e;exact .inr h2
   ·exact .inl ⟨j,by omega,h2⟩
def rowTo (l:List Int) (k:Nat):Prop:=∀ j,j<k→0≤l[j]! ∧l[j]! ≤1000000∧(0<j→l[j - 1]! ≤l[j]!)
def rowS (l:List Int) (n:Nat):Bool:=decide (l.length=n∧∀ j,j<l.length→0≤l[j]! ∧l[j]! ≤1000000∧(0<j→l[j - 1]! ≤l[j]!))
abbrev intsV (s:Nat) (l:List Int):V:= .sl s l.length (l.map iD)
section
variable (w:World) (n:Nat)
theorem words_p (s:Nat) (l:List (List UInt8)) (hl:l.length≤100000000) (hs:∀ j,j<l.length→l[j]!.length≤100000000):VSpec (EN w (n+2)) 25 [strs s l] (.tup [.sc (.bool (wordsS l)),.sc (.bool (twiceS l))]) ⟨[],0,0⟩:=by
 refine vspec_flat rfl rfl (fun _ _=>rfl) (Nat.le_of_ble_eq_true rfl) (oldVals w) rfl fun C hC h0=>?_
 have h00:decide ((0:Int)<l.length)=wF l 0:=by rw[wF];congr 1;apply propext;omega
 repeat' (first|(simp (disch:=first|omega|assumption|exact bd (by with_unfolding_all rfl)|exact Or.inl rfl|exact Or.inl trivial|exact okL_map _ (fun _=>rfl) _|(simp only[VVlen]<;>omega)|fail) only[VV0,VV1,VV2,VV3,VV4,VV5,VV6,VV7,VV8,VV9,mkFnV,vargs,slotsL,opdsA,Nat.reduceEqDiff,Nat.reduceLT,Nat.reduceAdd,Nat.reduceBEq,Int.reduceAdd,Int.reduceSub,Int.reduceLT,Int.reduceLE,Int.reduceEq,Int.reduceNeg,↓reduceIte,reduceCtorEq,scL,scD,expand,List.replicate,c25])|apply gC_drawW|((first|apply gI_dec|apply gG_dec|apply gPG_dec|apply gI_var|apply gG_var|apply gPG_var)<;>intro _))
 all_goals try rw[h00]
 refine g_while (fun m fr st=>∃ k:Nat,m=l.length - k∧k≤l.length∧fr= [(0,strs s l),(2,.sc (.bool (wF l k))),(3,.sc (.bool (tF l k))),(9,strs s l),(10,.sc (.int .i64 l.length)),(11,.sc (.int .i64 k))]∧st=⟨[],0,0⟩) l.length ?_ ⟨_,_,.refl _ _,0,by omega,Nat.zero_le _,rfl,rfl⟩ ?_
 ·rw[hC,callP_rounds];unfold many;omega
 rintro m fr st ⟨k,rfl,hk,rfl,rfl⟩
 by_cases hlt:k<l.length
 ·have e1:wF l (k+1)=(wF l k && wordS l[k]!):=rfl
  have e2:tF l (k+1)=(tF l k||decide (placeG l l[k]! l.length<k)):=rfl
  have hw:=fun st=>(word_p w n l[k]! (hs k hlt)).of hC rfl st rfl
  have hi:=fun st=>(gix_p w n s l l[k]! hl).of hC rfl st rfl
  generalize hX:l[k]! =X at*
  generalize wordS X=b at*
  have hp:decide (placeG l X l.length<(k:Int))=decide (placeG l X l.length<k):=rfl
  generalize placeG l X l.length=p at*
  generalize wF l k=f at*
  generalize tF l k=g at*
  cases f<;>cases g
  ·repeat' (first|(simp (disch:=first|omega|assumption|exact bd (by with_unfolding_all rfl)|exact Or.inl rfl|exact Or.inl trivial|exact okL_map _ (fun _=>rfl) _|(simp only[VVlen]<;>omega)|fail) only[VV0,VV1,VV2,VV3,VV4,VV5,VV6,VV7,VV8,VV9,mkFnV,vargs,slotsL,opdsA,Nat.reduceEqDiff,Nat.reduceLT,Nat.reduceAdd,Nat.reduceBEq,Int.reduceAdd,Int.reduceSub,Int.reduceLT,Int.reduceLE,Int.reduceEq,Int.reduceNeg,↓reduceIte,reduceCtorEq,scL,scD,expand,List.replicate,c25l0,sD_dv,hX])|apply gC_drawW|((first|apply gI_dec|apply gG_dec|apply gPG_dec|apply gI_var|apply gG_var|apply gPG_var)<;>intro _))
   refine callV_flat (hi _) ?_
   repeat' (first|(simp (disch:=first|omega|assumption|exact bd (by with_unfolding_all rfl)|exact Or.inl rfl|exact Or.inl trivial|exact okL_map _ (fun _=>rfl) _|(simp only[VVlen]<;>omega)|fail) only[VV0,VV1,VV2,VV3,VV4,VV5,VV6,VV7,VV8,VV9,mkFnV,vargs,slotsL,opdsA,Nat.reduceEqDiff,Nat.reduceLT,Nat.reduceAdd,Nat.reduceBEq,Int.reduceAdd,Int.reduceSub,Int.reduceLT,Int.reduceLE,Int.reduceEq,Int.reduceNeg,↓reduceIte,reduceCtorEq,scL,scD,expand,List.replicate])|apply gC_drawW|((first|apply gI_dec|apply gG_dec|apply gPG_dec|apply gI_var|apply gG_var|apply gPG_var)<;>intro _))
   exact ⟨_,_,_,by omega,.refl _ _,k+1,rfl,hlt,by rw[e1,e2];rfl,rfl⟩
  ·repeat' (first|(simp (disch:=first|omega|assumption|exact bd (by with_unfolding_all rfl)|exact Or.inl rfl|exact Or.inl trivial|exact okL_map _ (fun _=>rfl) _|(simp only[VVlen]<;>omega)|fail) only[VV0,VV1,VV2,VV3,VV4,VV5,VV6,VV7,VV8,VV9,mkFnV,vargs,slotsL,opdsA,Nat.reduceEqDiff,Nat.reduceLT,Nat.reduceAdd,Nat.reduceBEq,Int.reduceAdd,Int.reduceSub,Int.reduceLT,Int.reduceLE,Int.reduceEq,Int.reduceNeg,↓reduceIte,reduceCtorEq,scL,scD,expand,List.replicate,c25l0,sD_dv,hX])|apply gC_drawW|((first|apply gI_dec|apply gG_dec|apply gPG_dec|apply gI_var|apply gG_var|apply gPG_var)<;>intro _))
   exact ⟨_,_,_,by omega,.refl _ _,k+1,rfl,hlt,by rw[e1,e2];rfl,rfl⟩
  ·repeat' (first|(simp (disch:=first|omega|assumption|exact bd (by with_unfolding_all rfl)|exact Or.inl rfl|exact Or.inl trivial|exact okL_map _ (fun _=>rfl) _|(simp only[VVlen]<;>omega)|fail) only[VV0,VV1,VV2,VV3,VV4,VV5,VV6,VV7,VV8,VV9,mkFnV,vargs,slotsL,opdsA,Nat.reduceEqDiff,Nat.reduceLT,Nat.reduceAdd,Nat.reduceBEq,Int.reduceAdd,Int.reduceSub,Int.reduceLT,Int.reduceLE,Int.reduceEq,Int.reduceNeg,↓reduceIte,reduceCtorEq,scL,scD,expand,List.replicate,c25l0,sD_dv,hX])|apply gC_drawW|((first|apply gI_dec|apply gG_dec|apply gPG_dec|apply gI_var|apply gG_var|apply gPG_var)<;>intro _))
   refine callV_flat (hw _) ?_
   repeat' (first|(simp (disch:=first|omega|assumption|exact bd (by with_unfolding_all rfl)|exact Or.inl rfl|exact Or.inl trivial|exact okL_map _ (fun _=>rfl) _|(simp only[VVlen]<;>omega)|fail) only[VV0,VV1,VV2,VV3,VV4,VV5,VV6,VV7,VV8,VV9,mkFnV,vargs,slotsL,opdsA,Nat.reduceEqDiff,Nat.reduceLT,Nat.reduceAdd,Nat.reduceBEq,Int.reduceAdd,Int.reduceSub,Int.reduceLT,Int.reduceLE,Int.reduceEq,Int.reduceNeg,↓reduceIte,reduceCtorEq,scL,scD,expand,List.replicate])|apply gC_drawW|((first|apply gI_dec|apply gG_dec|apply gPG_dec|apply gI_var|apply gG_var|apply gPG_var)<;>intro _))
   refine callV_flat (hi _) ?_
   repeat' (first|(simp (disch:=first|omega|assumption|exact bd (by with_unfolding_all rfl)|exact Or.inl rfl|exact Or.inl trivial|exact okL_map _ (fun _=>rfl) _|(simp only[VVlen]<;>omega)|fail) only[VV0,VV1,VV2,VV3,VV4,VV5,VV6,VV7,VV8,VV9,mkFnV,vargs,slotsL,opdsA,Nat.reduceEqDiff,Nat.reduceLT,Nat.reduceAdd,Nat.reduceBEq,Int.reduceAdd,Int.reduceSub,Int.reduceLT,Int.reduceLE,Int.reduceEq,Int.reduceNeg,↓reduceIte,reduceCtorEq,scL,scD,expand,List.replicate])|apply gC_drawW|((first|apply gI_dec|apply gG_dec|apply gPG_dec|apply gI_var|apply gG_var|apply gPG_var)<;>intro _))
   exact ⟨_,_,_,by omega,.refl _ _,k+1,rfl,hlt,by rw[e1,e2];rfl,rfl⟩
  ·repeat' (first|(simp (disch:=first|omega|assumption|exact bd (by with_unfolding_all rfl)|exact Or.inl rfl|exact Or.inl trivial|exact okL_map _ (fun _=>rfl) _|(simp only[VVlen]<;>omega)|fail) only[VV0,VV1,VV2,VV3,VV4,VV5,VV6,VV7,VV8,VV9,mkFnV,vargs,slotsL,opdsA,Nat.reduceEqDiff,Nat.reduceLT,Nat.reduceAdd,Nat.reduceBEq,Int.reduceAdd,Int.reduceSub,Int.reduceLT,Int.reduceLE,Int.reduceEq,Int.reduceNeg,↓reduceIte,reduceCtorEq,scL,scD,expand,List.replicate,c25l0,sD_dv,hX])|apply gC_drawW|((first|apply gI_dec|apply gG_dec|apply gPG_dec|apply gI_var|apply gG_var|apply gPG_var)<;>intro _))
   refine callV_flat (hw _) ?_
   repeat' (first|(simp (disch:=first|omega|assumption|exact bd (by with_unfolding_all rfl)|exact Or.inl rfl|exact Or.inl trivial|exact okL_map _ (fun _=>rfl) _|(simp only[VVlen]<;>omega)|fail) only[VV0,VV1,VV2,VV3,VV4,VV5,VV6,VV7,VV8,VV9,mkFnV,vargs,slotsL,opdsA,Nat.reduceEqDiff,Nat.reduceLT,Nat.reduceAdd,Nat.reduceBEq,Int.reduceAdd,Int.reduceSub,Int.reduceLT,Int.reduceLE,Int.reduceEq,Int.reduceNeg,↓reduceIte,reduceCtorEq,scL,scD,expand,List.replicate])|apply gC_drawW|((first|apply gI_dec|apply gG_dec|apply gPG_dec|apply gI_var|apply gG_var|apply gPG_var)<;>intro _))
   exact ⟨_,_,_,by omega,.refl _ _,k+1,rfl,hlt,by rw[e1,e2];rfl,rfl⟩
 ·have:k=l.length:=by omega
  subst this
  repeat' (first|(simp (disch:=first|omega|assumption|exact bd (by with_unfolding_all rfl)|exact Or.inl rfl|exact Or.inl trivial|exact okL_map _ (fun _=>rfl) _|(simp only[VVlen]<;>omega)|fail) only[VV0,VV1,VV2,VV3,VV4,VV5,VV6,VV7,VV8,VV9,mkFnV,vargs,slotsL,opdsA,Nat.reduceEqDiff,Nat.reduceLT,Nat.reduceAdd,Nat.reduceBEq,Int.reduceAdd,Int.reduceSub,Int.reduceLT,Int.reduceLE,Int.reduceEq,Int.reduceNeg,↓reduceIte,reduceCtorEq,scL,scD,expand,List.replicate,c25l0])|apply gC_drawW|((first|apply gI_dec|apply gG_dec|apply gPG_dec|apply gI_var|apply gG_var|apply gPG_var)<;>intro _))
  exact weak_flat rfl h0 rfl
theorem rwords_p (s:Nat) (l:List (List UInt8)) (hl:l.length≤100000000) (hs:∀ j,j<l.length→l[j]!.length≤100000000):VSpec (EN w (n+2)) 26 [strs s l] (.sc (.bool (wordsS l))) ⟨[],0,0⟩:=by
 refine vspec_flat rfl rfl (fun _ _=>rfl) (Nat.le_of_ble_eq_true rfl) (oldVals w) rfl fun C hC h0=>?_
 repeat' (first|(simp (disch:=first|omega|assumption|exact bd (by with_unfolding_all rfl)|exact Or.inl rfl|exact Or.inl trivial|exact okL_map _ (fun _=>rfl) _|(simp only[VVlen]<;>omega)|fail) only[VV0,VV1,VV2,VV3,VV4,VV5,VV6,VV7,VV8,VV9,mkFnV,vargs,slotsL,opdsA,Nat.reduceEqDiff,Nat.reduceLT,Nat.reduceAdd,Nat.reduceBEq,Int.reduceAdd,Int.reduceSub,Int.reduceLT,Int.reduceLE,Int.reduceEq,Int.reduceNeg,↓reduceIte,reduceCtorEq,scL,scD,expand,List.replicate,c26])|apply gC_drawW|((first|apply gI_dec|apply gG_dec|apply gPG_dec|apply gI_var|apply gG_var|apply gPG_var)<;>intro _))
 refine g_while (fun m fr st=>∃ k:Nat,m=l.length - k∧k≤l.length∧fr= [(0,strs s l),(3,.sc (.int .i64 k))]∧st=⟨[],0,0⟩∧∀ j,j<k→wordS l[j]! =true) l.length ?_ ⟨_,_,.refl _ _,0,by omega,Nat.zero_le _,rfl,rfl,by omega⟩ ?_
 ·rw[hC,callP_rounds];unfold many;omega
 rintro m fr st ⟨k,rfl,hk,rfl,rfl,hj⟩
 by_cases hlt:k<l.length
 ·have hw:=fun st=>(rword_p w n l[k]! (hs k hlt)).of hC rfl st rfl
  cases hb:wordS l[k]! with
  |true=>
   have hj2:=lt_succ_cases hj hb
   rw[hb] at hw
   generalize hX:l[k]! =X at*
   repeat' (first|(simp (disch:=first|omega|assumption|exact bd (by with_unfolding_all rfl)|exact Or.inl rfl|exact Or.inl trivial|exact okL_map _ (fun _=>rfl) _|(simp only[VVlen]<;>omega)|fail) only[VV0,VV1,VV2,VV3,VV4,VV5,VV6,VV7,VV8,VV9,mkFnV,vargs,slotsL,opdsA,Nat.reduceEqDiff,Nat.reduceLT,Nat.reduceAdd,Nat.reduceBEq,Int.reduceAdd,Int.reduceSub,Int.reduceLT,Int.reduceLE,Int.reduceEq,Int.reduceNeg,↓reduceIte,reduceCtorEq,scL,scD,expand,List.replicate,c26l0,sD_dv,hX])|apply gC_drawW|((first|apply gI_dec|apply gG_dec|apply gPG_dec|apply gI_var|apply gG_var|apply gPG_var)<;>intro _))
   refine callV_flat (hw _) ?_
   repeat' (first|(simp (disch:=first|omega|assumption|exact bd (by with_unfolding_all rfl)|exact Or.inl rfl|exact Or.inl trivial|exact okL_map _ (fun _=>rfl) _|(simp only[VVlen]<;>omega)|fail) only[VV0,VV1,VV2,VV3,VV4,VV5,VV6,VV7,VV8,VV9,mkFnV,vargs,slotsL,opdsA,Nat.reduceEqDiff,Nat.reduceLT,Nat.reduceAdd,Nat.reduceBEq,Int.reduceAdd,Int.reduceSub,Int.reduceLT,Int.reduceLE,Int.reduceEq,Int.reduceNeg,↓reduceIte,reduceCtorEq,scL,scD,expand,List.replicate])|apply gC_drawW|((first|apply gI_dec|apply gG_dec|apply gPG_dec|apply gI_var|apply gG_var|apply gPG_var)<;>intro _))
   exact ⟨_,_,_,by omega,.refl _ _,k+1,rfl,hlt,rfl,rfl,hj2⟩
  |false=>
   have e:wordsS l=false:=Bool.eq_false_iff.2 fun h=>by
    have:=((wF_iff l l.length).1 h).2 k hlt
    rw[hb] at this;cases this
   rw[e]
   rw[hb] at hw
   generalize hX:l[k]! =X at*
   repeat' (first|(simp (disch:=first|omega|assumption|exact bd (by with_unfolding_all rfl)|exact Or.inl rfl|exact Or.inl trivial|exact okL_map _ (fun _=>rfl) _|(simp only[VVlen]<;>omega)|fail) only[VV0,VV1,VV2,VV3,VV4,VV5,VV6,VV7,VV8,VV9,mkFnV,vargs,slotsL,opdsA,Nat.reduceEqDiff,Nat.reduceLT,Nat.reduceAdd,Nat.reduceBEq,Int.reduceAdd,Int.reduceSub,Int.reduceLT,Int.reduceLE,Int.reduceEq,Int.reduceNeg,↓reduceIte,reduceCtorEq,scL,scD,expand,List.replicate,c26l0,sD_dv,hX])|apply gC_drawW|((first|apply gI_dec|apply gG_dec|apply gPG_dec|apply gI_var|apply gG_var|apply gPG_var)<;>intro _))
   refine callV_flat (hw _) ?_
   repeat' (first|(simp (disch:=first|omega|assumption|exact bd (by with_unfolding_all rfl)|exact Or.inl rfl|exact Or.inl trivial|exact okL_map _ (fun _=>rfl) _|(simp only[VVlen]<;>omega)|fail) only[VV0,VV1,VV2,VV3,VV4,VV5,VV6,VV7,VV8,VV9,mkFnV,vargs,slotsL,opdsA,Nat.reduceEqDiff,Nat.reduceLT,Nat.reduceAdd,Nat.reduceBEq,Int.reduceAdd,Int.reduceSub,Int.reduceLT,Int.reduceLE,Int.reduceEq,Int.reduceNeg,↓reduceIte,reduceCtorEq,scL,scD,expand,List.replicate])|apply gC_drawW|((first|apply gI_dec|apply gG_dec|apply gPG_dec|apply gI_var|apply gG_var|apply gPG_var)<;>intro _))
   exact weak_flat rfl h0 rfl
 ·have:k=l.length:=by omega
  subst this
  have e:wordsS l=decide ((0:Int)<l.length):=by
   rw[Bool.eq_iff_iff,decide_eq_true_eq]
   exact (wF_iff l l.length).trans ⟨fun h=>by have:=h.1;omega,fun h=>⟨by omega,hj⟩⟩
  rw[e]
  repeat' (first|(simp (disch:=first|omega|assumption|exact bd (by with_unfolding_all rfl)|exact Or.inl rfl|exact Or.inl trivial|exact okL_map _ (fun _=>rfl) _|(simp only[VVlen]<;>omega)|fail) only[VV0,VV1,VV2,VV3,VV4,VV5,VV6,VV7,VV8,VV9,mkFnV,vargs,slotsL,opdsA,Nat.reduceEqDiff,Nat.reduceLT,Nat.reduceAdd,Nat.reduceBEq,Int.reduceAdd,Int.reduceSub,Int.reduceLT,Int.reduceLE,Int.reduceEq,Int.reduceNeg,↓reduceIte,reduceCtorEq,scL,scD,expand,List.replicate,c26l0])|apply gC_drawW|((first|apply gI_dec|apply gG_dec|apply gPG_dec|apply gI_var|apply gG_var|apply gPG_var)<;>intro _))
  exact weak_flat rfl h0 rfl
theorem twice_p (s:Nat) (l:List (List UInt8)) (hl:l.length≤100000000):VSpec (EN w (n+2)) 28 [strs s l] (.sc (.bool (twiceS l))) ⟨[],0,0⟩:=by
 refine vspec_flat rfl rfl (fun _ _=>rfl) (Nat.le_of_ble_eq_true rfl) (oldVals w) rfl fun C hC h0=>?_
 repeat' (first|(simp (disch:=first|omega|assumption|exact bd (by with_unfolding_all rfl)|exact Or.inl rfl|exact Or.inl trivial|exact okL_map _ (fun _=>rfl) _|(simp only[VVlen]<;>omega)|fail) only[VV0,VV1,VV2,VV3,VV4,VV5,VV6,VV7,VV8,VV9,mkFnV,vargs,slotsL,opdsA,Nat.reduceEqDiff,Nat.reduceLT,Nat.reduceAdd,Nat.reduceBEq,Int.reduceAdd,Int.reduceSub,Int.reduceLT,Int.reduceLE,Int.reduceEq,Int.reduceNeg,↓reduceIte,reduceCtorEq,scL,scD,expand,List.replicate,c28])|apply gC_drawW|((first|apply gI_dec|apply gG_dec|apply gPG_dec|apply gI_var|apply gG_var|apply gPG_var)<;>intro _))
 refine g_while (fun m fr st=>∃ k:Nat,m=l.length - k∧k≤l.length∧fr= [(0,strs s l),(3,.sc (.int .i64 k))]∧st=⟨[],0,0⟩∧∀ j,j<k→¬ placeG l l[j]! l.length<j) l.length ?_ ⟨_,_,.refl _ _,0,by omega,Nat.zero_le _,rfl,rfl,by omega⟩ ?_
 ·rw[hC,callP_rounds];unfold many;omega
 rintro m fr st ⟨k,rfl,hk,rfl,rfl,hj⟩
 by_cases hlt:k<l.length
 ·have hi:=fun st=>(rindex_p w n s l l[k]! hl).of hC rfl st rfl
  by_cases hp:placeG l l[k]! l.length<k
  ·have e:twiceS l=true:=(tF_iff l l.length).2 ⟨k,hlt,hp⟩
   rw[e]
   generalize hX:l[k]! =X at*
   generalize placeG l X l.length=p at*
   repeat' (first|(simp (disch:=first|omega|assumption|exact bd (by with_unfolding_all rfl)|exact Or.inl rfl|exact Or.inl trivial|exact okL_map _ (fun _=>rfl) _|(simp only[VVlen]<;>omega)|fail) only[VV0,VV1,VV2,VV3,VV4,VV5,VV6,VV7,VV8,VV9,mkFnV,vargs,slotsL,opdsA,Nat.reduceEqDiff,Nat.reduceLT,Nat.reduceAdd,Nat.reduceBEq,Int.reduceAdd,Int.reduceSub,Int.reduceLT,Int.reduceLE,Int.reduceEq,Int.reduceNeg,↓reduceIte,reduceCtorEq,scL,scD,expand,List.replicate,c28l0,sD_dv,hX])|apply gC_drawW|((first|apply gI_dec|apply gG_dec|apply gPG_dec|apply gI_var|apply gG_var|apply gPG_var)<;>intro _))
   refine callV_flat (hi _) ?_
   repeat' (first|(simp (disch:=first|omega|assumption|exact bd (by with_unfolding_all rfl)|exact Or.inl rfl|exact Or.inl trivial|exact okL_map _ (fun _=>rfl) _|(simp only[VVlen]<;>omega)|fail) only[VV0,VV1,VV2,VV3,VV4,VV5,VV6,VV7,VV8,VV9,mkFnV,vargs,slotsL,opdsA,Nat.reduceEqDiff,Nat.reduceLT,Nat.reduceAdd,Nat.reduceBEq,Int.reduceAdd,Int.reduceSub,Int.reduceLT,Int.reduceLE,Int.reduceEq,Int.reduceNeg,↓reduceIte,reduceCtorEq,scL,scD,expand,List.replicate])|apply gC_drawW|((first|apply gI_dec|apply gG_dec|apply gPG_dec|apply gI_var|apply gG_var|apply gPG_var)<;>intro _))
   all_goals try (exfalso;omega)
   exact weak_flat rfl h0 rfl
  ·have hj2:=lt_succ_cases hj hp
   generalize hX:l[k]! =X at*
   generalize placeG l X l.length=p at*
   repeat' (first|(simp (disch:=first|omega|assumption|exact bd (by with_unfolding_all rfl)|exact Or.inl rfl|exact Or.inl trivial|exact okL_map _ (fun _=>rfl) _|(simp only[VVlen]<;>omega)|fail) only[VV0,VV1,VV2,VV3,VV4,VV5,VV6,VV7,VV8,VV9,mkFnV,vargs,slotsL,opdsA,Nat.reduceEqDiff,Nat.reduceLT,Nat.reduceAdd,Nat.reduceBEq,Int.reduceAdd,Int.reduceSub,Int.reduceLT,Int.reduceLE,Int.reduceEq,Int.reduceNeg,↓reduceIte,reduceCtorEq,scL,scD,expand,List.replicate,c28l0,sD_dv,hX])|apply gC_drawW|((first|apply gI_dec|apply gG_dec|apply gPG_dec|apply gI_var|apply gG_var|apply gPG_var)<;>intro _))
   refine callV_flat (hi _) ?_
   repeat' (first|(simp (disch:=first|omega|assumption|exact bd (by with_unfolding_all rfl)|exact Or.inl rfl|exact Or.inl trivial|exact okL_map _ (fun _=>rfl) _|(simp only[VVlen]<;>omega)|fail) only[VV0,VV1,VV2,VV3,VV4,VV5,VV6,VV7,VV8,VV9,mkFnV,vargs,slotsL,opdsA,Nat.reduceEqDiff,Nat.reduceLT,Nat.reduceAdd,Nat.reduceBEq,Int.reduceAdd,Int.reduceSub,Int.reduceLT,Int.reduceLE,Int.reduceEq,Int.reduceNeg,↓reduceIte,reduceCtorEq,scL,scD,expand,List.replicate])|apply gC_drawW|((first|apply gI_dec|apply gG_dec|apply gPG_dec|apply gI_var|apply gG_var|apply gPG_var)<;>intro _))
   all_goals try (exfalso;omega)
   exact ⟨_,_,_,by omega,.refl _ _,k+1,rfl,hlt,rfl,rfl,hj2⟩
 ·have:k=l.length:=by omega
  subst this
  have e:twiceS l=false:=Bool.eq_false_iff.2 fun h=>by
   obtain ⟨j,h1,h2⟩:=(tF_iff l l.length).1 h
   exact hj j h1 h2
  rw[e]
  repeat' (first|(simp (disch:=first|omega|assumption|exact bd (by with_unfolding_all rfl)|exact Or.inl rfl|exact Or.inl trivial|exact okL_map _ (fun _=>rfl) _|(simp only[VVlen]<;>omega)|fail) only[VV0,VV1,VV2,VV3,VV4,VV5,VV6,VV7,VV8,VV9,mkFnV,vargs,slotsL,opdsA,Nat.reduceEqDiff,Nat.reduceLT,Nat.reduceAdd,Nat.reduceBEq,Int.reduceAdd,Int.reduceSub,Int.reduceLT,Int.reduceLE,Int.reduceEq,Int.reduceNeg,↓reduceIte,reduceCtorEq,scL,scD,expand,List.replicate,c28l0])|apply gC_drawW|((first|apply gI_dec|apply gG_dec|apply gPG_dec|apply gI_var|apply gG_var|apply gPG_var)<;>intro _))
  exact weak_flat rfl h0 rfl
theorem row_p (s:Nat) (l:List Int) (hl:l.length≤100000000) (q:Nat) (hq:q≤100000000):VSpec (EN w (n+1)) 27 [intsV s l,.sc (.int .i64 q)] (.sc (.bool (rowS l q))) ⟨[],0,0⟩:=by
 refine vspec_flat rfl rfl (fun _ _=>rfl) (Nat.le_of_ble_eq_true rfl) (oldVals w) rfl fun C hC h0=>?_
 repeat' (first|(simp (disch:=first|omega|assumption|exact bd (by with_unfolding_all rfl)|exact Or.inl rfl|exact Or.inl trivial|exact okL_map _ (fun _=>rfl) _|(simp only[VVlen]<;>omega)|fail) only[VV0,VV1,VV2,VV3,VV4,VV5,VV6,VV7,VV8,VV9,mkFnV,vargs,slotsL,opdsA,Nat.reduceEqDiff,Nat.reduceLT,Nat.reduceAdd,Nat.reduceBEq,Int.reduceAdd,Int.reduceSub,Int.reduceLT,Int.reduceLE,Int.reduceEq,Int.reduceNeg,↓reduceIte,reduceCtorEq,scL,scD,expand,List.replicate,c27])|apply gC_drawW|((first|apply gI_dec|apply gG_dec|apply gPG_dec|apply gI_var|apply gG_var|apply gPG_var)<;>intro _))
 refine g_while (fun m fr st=>∃ k:Nat,m=l.length - k∧k≤l.length∧fr= [(0,intsV s l),(1,.sc (.int .i64 q)),(5,.sc (.int .i64 k))]∧st=⟨[],0,0⟩∧rowTo l k) l.length ?_ ⟨_,_,.refl _ _,0,by omega,Nat.zero_le _,rfl,rfl,fun j hj=>by omega⟩ ?_
 ·rw[hC,callP_rounds];unfold many;omega
 rintro m fr st ⟨k,rfl,hk,rfl,rfl,hj⟩
 by_cases hlt:k<l.length
 ·have hk1:((k:Int) - 1).toNat=k - 1:=by omega
  have e0:rowS l q=true→0≤l[k]! ∧l[k]! ≤1000000∧(0<k→l[k - 1]! ≤l[k]!):=fun hh=>(of_decide_eq_true hh).2 k hlt
  by_cases hok:0≤l[k]! ∧l[k]! ≤1000000∧(0<k→l[k - 1]! ≤l[k]!)
  ·have hj2:rowTo l (k+1):=lt_succ_cases hj hok
   obtain ⟨a1,a2,a3⟩:=hok
   generalize hY:l[k - 1]! =Y at*
   generalize hX:l[k]! =X at*
   repeat' (first|(simp (disch:=first|omega|assumption|exact bd (by with_unfolding_all rfl)|exact Or.inl rfl|exact Or.inl trivial|exact okL_map _ (fun _=>rfl) _|(simp only[VVlen]<;>omega)|fail) only[VV0,VV1,VV2,VV3,VV4,VV5,VV6,VV7,VV8,VV9,mkFnV,vargs,slotsL,opdsA,Nat.reduceEqDiff,Nat.reduceLT,Nat.reduceAdd,Nat.reduceBEq,Int.reduceAdd,Int.reduceSub,Int.reduceLT,Int.reduceLE,Int.reduceEq,Int.reduceNeg,↓reduceIte,reduceCtorEq,scL,scD,expand,List.replicate,c27l0,iD_dv,hX,hY,hk1])|apply gC_drawW|((first|apply gI_dec|apply gG_dec|apply gPG_dec|apply gI_var|apply gG_var|apply gPG_var)<;>intro _))
   all_goals try (exfalso;omega)
   all_goals exact ⟨_,_,_,by omega,.refl _ _,k+1,rfl,hlt,rfl,rfl,hj2⟩
  ·have e:rowS l q=false:=Bool.eq_false_iff.2 fun h=>hok (e0 h)
   rw[e]
   generalize hY:l[k - 1]! =Y at*
   generalize hX:l[k]! =X at*
   have hok2:X<0∨1000000<X∨(0<k∧X<Y):=by
    by_cases a1:X<0
    ·exact .inl a1
    by_cases a2:1000000<X
    ·exact .inr (.inl a2)
    ·refine .inr (.inr ?_)
     by_cases a3:0<k
     ·exact ⟨a3,by by_cases a4:X<Y;exact a4;exact absurd ⟨by omega,by omega,fun _=>by omega⟩ hok⟩
     ·exact absurd ⟨by omega,by omega,fun h=>absurd h a3⟩ hok
   by_cases a1:X<0
   ·repeat' (first|(simp (disch:=first|omega|assumption|exact bd (by with_unfolding_all rfl)|exact Or.inl rfl|exact Or.inl trivial|exact okL_map _ (fun _=>rfl) _|(simp only[VVlen]<;>omega)|fail) only[VV0,VV1,VV2,VV3,VV4,VV5,VV6,VV7,VV8,VV9,mkFnV,vargs,slotsL,opdsA,Nat.reduceEqDiff,Nat.reduceLT,Nat.reduceAdd,Nat.reduceBEq,Int.reduceAdd,Int.reduceSub,Int.reduceLT,Int.reduceLE,Int.reduceEq,Int.reduceNeg,↓reduceIte,reduceCtorEq,scL,scD,expand,List.replicate,c27l0,iD_dv,hX,hY,hk1])|apply gC_drawW|((first|apply gI_dec|apply gG_dec|apply gPG_dec|apply gI_var|apply gG_var|apply gPG_var)<;>intro _))
    all_goals try (exfalso;omega)
    all_goals exact weak_flat rfl h0 rfl
   by_cases a2:1000000<X
   ·repeat' (first|(simp (disch:=first|omega|assumption|exact bd (by with_unfolding_all rfl)|exact Or.inl rfl|exact Or.inl trivial|exact okL_map _ (fun _=>rfl) _|(simp only[VVlen]<;>omega)|fail) only[VV0,VV1,VV2,VV3,VV4,VV5,VV6,VV7,VV8,VV9,mkFnV,vargs,slotsL,opdsA,Nat.reduceEqDiff,Nat.reduceLT,Nat.reduceAdd,Nat.reduceBEq,Int.reduceAdd,Int.reduceSub,Int.reduceLT,Int.reduceLE,Int.reduceEq,Int.reduceNeg,↓reduceIte,reduceCtorEq,scL,scD,expand,List.replicate,c27l0,iD_dv,hX,hY,hk1])|apply gC_drawW|((first|apply gI_dec|apply gG_dec|apply gPG_dec|apply gI_var|apply gG_var|apply gPG_var)<;>intro _))
    all_goals try (exfalso;omega)
    all_goals exact weak_flat rfl h0 rfl
   ·have a3:0<k∧X<Y:=by omega
    obtain ⟨a3,a4⟩:=a3
    repeat' (first|(simp (disch:=first|omega|assumption|exact bd (by with_unfolding_all rfl)|exact Or.inl rfl|exact Or.inl trivial|exact okL_map _ (fun _=>rfl) _|(simp only[VVlen]<;>omega)|fail) only[VV0,VV1,VV2,VV3,VV4,VV5,VV6,VV7,VV8,VV9,mkFnV,vargs,slotsL,opdsA,Nat.reduceEqDiff,Nat.reduceLT,Nat.reduceAdd,Nat.reduceBEq,Int.reduceAdd,Int.reduceSub,Int.reduceLT,Int.reduceLE,Int.reduceEq,Int.reduceNeg,↓reduceIte,reduceCtorEq,scL,scD,expand,List.replicate,c27l0,iD_dv,hX,hY,hk1])|apply gC_drawW|((first|apply gI_dec|apply gG_dec|apply gPG_dec|apply gI_var|apply gG_var|apply gPG_var)<;>intro _))
    all_goals try (exfalso;omega)
    all_goals exact weak_flat rfl h0 rfl
 ·have:k=l.length:=by omega
  subst this
  by_cases hq':(l.length:Int)=q
  ·have e:rowS l q=true:=decide_eq_true ⟨by omega,hj⟩
   rw[e]
   repeat' (first|(simp (disch:=first|omega|assumption|exact bd (by with_unfolding_all rfl)|exact Or.inl rfl|exact Or.inl trivial|exact okL_map _ (fun _=>rfl) _|(simp only[VVlen]<;>omega)|fail) only[VV0,VV1,VV2,VV3,VV4,VV5,VV6,VV7,VV8,VV9,mkFnV,vargs,slotsL,opdsA,Nat.reduceEqDiff,Nat.reduceLT,Nat.reduceAdd,Nat.reduceBEq,Int.reduceAdd,Int.reduceSub,Int.reduceLT,Int.reduceLE,Int.reduceEq,Int.reduceNeg,↓reduceIte,reduceCtorEq,scL,scD,expand,List.replicate,c27l0])|apply gC_drawW|((first|apply gI_dec|apply gG_dec|apply gPG_dec|apply gI_var|apply gG_var|apply gPG_var)<;>intro _))
   all_goals try (exfalso;omega)
   all_goals exact weak_flat rfl h0 rfl
  ·have e:rowS l q=false:=decide_eq_false fun h=>by have:=h.1;omega
   rw[e]
   repeat' (first|(simp (disch:=first|omega|assumption|exact bd (by with_unfolding_all rfl)|exact Or.inl rfl|exact Or.inl trivial|exact okL_map _ (fun _=>rfl) _|(simp only[VVlen]<;>omega)|fail) only[VV0,VV1,VV2,VV3,VV4,VV5,VV6,VV7,VV8,VV9,mkFnV,vargs,slotsL,opdsA,Nat.reduceEqDiff,Nat.reduceLT,Nat.reduceAdd,Nat.reduceBEq,Int.reduceAdd,Int.reduceSub,Int.reduceLT,Int.reduceLE,Int.reduceEq,Int.reduceNeg,↓reduceIte,reduceCtorEq,scL,scD,expand,List.replicate,c27l0])|apply gC_drawW|((first|apply gI_dec|apply gG_dec|apply gPG_dec|apply gI_var|apply gG_var|apply gPG_var)<;>intro _))
   all_goals try (exfalso;omega)
   all_goals exact weak_flat rfl h0 rfl
end
set_option maxHeartbeats 2000000
abbrev rowsV (u r:Nat) (M:List (List Int)):V:= .sl u M.length (M.map (rowI r))
abbrev tableV (s t u r:Nat) (S N:List (List UInt8)) (M:List (List Int)):V:= .agg [strs s S,strs t N,rowsV u r M]
abbrev tabO (s t u r:Nat) (S N:List (List UInt8)) (M:List (List Int)):Itp.Obj:= .box 25 1 [strs s S,strs t N,rowsV u r M]
def sizeL:List UInt8:= [115,105,122,101]
def checkS (S N:List (List UInt8)) (M:List (List Int)):Int:=
 if 20<S.length∨30<N.length then 4
 else if ¬ wordsS S=true∨¬ wordsS N=true∨0≤placeG N sizeL N.length∨¬ M.length=N.length then 8
 else if ∀ k,k<M.length→rowS M[k]! S.length=true then (if twiceS S=true∨twiceS N=true then 14 else 0)
 else 8
structure Mod (S N:List (List UInt8)) (M:List (List Int)):Prop where
 s:S.length≤100000000
 n:N.length≤100000000
 m:M.length≤100000000
 zs:∀ j,j<S.length→S[j]!.length≤100000000
 zn:∀ j,j<N.length→N[j]!.length≤100000000
 zm:∀ j,j<M.length→M[j]!.length≤100000000
section
variable (w:World) (n:Nat)
theorem check_p (s t u r:Nat) (S N:List (List UInt8)) (M:List (List Int)) (hm:Mod S N M):VSpec (EN w (n+3)) 10 [tableV s t u r S N M] (.sc (.int .i64 (checkS S N M))) ⟨[],0,0⟩:=by
 refine vspec_flat rfl rfl (fun _ _=>rfl) (Nat.le_of_ble_eq_true rfl) (oldVals w) rfl fun C hC h0=>?_
 obtain ⟨m1,m2,m3,m4,m5,m6⟩:=hm
 by_cases h1:20<S.length∨30<N.length
 ·have e:checkS S N M=4:=if_pos h1
  rw[e]
  repeat' (first|(simp (disch:=first|omega|assumption|exact bd (by with_unfolding_all rfl)|exact Or.inl rfl|exact Or.inl trivial|exact okL_map _ (fun _=>rfl) _|(simp only[VVlen]<;>omega)|fail) only[VV0,VV1,VV2,VV3,VV4,VV5,VV6,VV7,VV8,VV9,mkFnV,vargs,slotsL,opdsA,Nat.reduceEqDiff,Nat.reduceLT,Nat.reduceAdd,Nat.reduceBEq,Int.reduceAdd,Int.reduceSub,Int.reduceLT,Int.reduceLE,Int.reduceEq,Int.reduceNeg,↓reduceIte,reduceCtorEq,scL,scD,expand,List.replicate,c10])|apply gC_drawW|((first|apply gI_dec|apply gG_dec|apply gPG_dec|apply gI_var|apply gG_var|apply gPG_var)<;>intro _))
  all_goals try (exfalso;omega)
  all_goals exact weak_flat rfl h0 rfl
 have w1:=words_p w n s S m1 m4
 have w2:=words_p w n t N m2 m5
 have ix:=gix_p w (n+1) t N sizeL m2
 by_cases hbad:(¬ wordsS S=true∨¬ wordsS N=true∨0≤placeG N sizeL N.length∨¬ M.length=N.length)
 ·have e:checkS S N M=8:=by unfold checkS;rw[if_neg h1,if_pos hbad]
  rw[e]
  generalize wordsS S=a at*
  generalize wordsS N=b at*
  generalize placeG N sizeL N.length=p at*
  generalize twiceS S=c at*
  generalize twiceS N=d at*
  cases a
  ·repeat' (first|(simp (disch:=first|omega|assumption|exact bd (by with_unfolding_all rfl)|exact Or.inl rfl|exact Or.inl trivial|exact okL_map _ (fun _=>rfl) _|(simp only[VVlen]<;>omega)|fail) only[VV0,VV1,VV2,VV3,VV4,VV5,VV6,VV7,VV8,VV9,mkFnV,vargs,slotsL,opdsA,Nat.reduceEqDiff,Nat.reduceLT,Nat.reduceAdd,Nat.reduceBEq,Int.reduceAdd,Int.reduceSub,Int.reduceLT,Int.reduceLE,Int.reduceEq,Int.reduceNeg,↓reduceIte,reduceCtorEq,scL,scD,expand,List.replicate,c10])|apply gC_drawW|((first|apply gI_dec|apply gG_dec|apply gPG_dec|apply gI_var|apply gG_var|apply gPG_var)<;>intro _))
   all_goals try (exfalso;omega)
   refine callV_flat (by rw[hC];exact w1.flat rfl rfl) ?_
   repeat' (first|(simp (disch:=first|omega|assumption|exact bd (by with_unfolding_all rfl)|exact Or.inl rfl|exact Or.inl trivial|exact okL_map _ (fun _=>rfl) _|(simp only[VVlen]<;>omega)|fail) only[VV0,VV1,VV2,VV3,VV4,VV5,VV6,VV7,VV8,VV9,mkFnV,vargs,slotsL,opdsA,Nat.reduceEqDiff,Nat.reduceLT,Nat.reduceAdd,Nat.reduceBEq,Int.reduceAdd,Int.reduceSub,Int.reduceLT,Int.reduceLE,Int.reduceEq,Int.reduceNeg,↓reduceIte,reduceCtorEq,scL,scD,expand,List.replicate])|apply gC_drawW|((first|apply gI_dec|apply gG_dec|apply gPG_dec|apply gI_var|apply gG_var|apply gPG_var)<;>intro _))
   refine callV_flat (by rw[hC];exact w2.flat rfl rfl) ?_
   repeat' (first|(simp (disch:=first|omega|assumption|exact bd (by with_unfolding_all rfl)|exact Or.inl rfl|exact Or.inl trivial|exact okL_map _ (fun _=>rfl) _|(simp only[VVlen]<;>omega)|fail) only[VV0,VV1,VV2,VV3,VV4,VV5,VV6,VV7,VV8,VV9,mkFnV,vargs,slotsL,opdsA,Nat.reduceEqDiff,Nat.reduceLT,Nat.reduceAdd,Nat.reduceBEq,Int.reduceAdd,Int.reduceSub,Int.reduceLT,Int.reduceLE,Int.reduceEq,Int.reduceNeg,↓reduceIte,reduceCtorEq,scL,scD,expand,List.replicate])|apply gC_drawW|((first|apply gI_dec|apply gG_dec|apply gPG_dec|apply gI_var|apply gG_var|apply gPG_var)<;>intro _))
   exact weak_flat rfl h0 rfl
  cases b
  ·repeat' (first|(simp (disch:=first|omega|assumption|exact bd (by with_unfolding_all rfl)|exact Or.inl rfl|exact Or.inl trivial|exact okL_map _ (fun _=>rfl) _|(simp only[VVlen]<;>omega)|fail) only[VV0,VV1,VV2,VV3,VV4,VV5,VV6,VV7,VV8,VV9,mkFnV,vargs,slotsL,opdsA,Nat.reduceEqDiff,Nat.reduceLT,Nat.reduceAdd,Nat.reduceBEq,Int.reduceAdd,Int.reduceSub,Int.reduceLT,Int.reduceLE,Int.reduceEq,Int.reduceNeg,↓reduceIte,reduceCtorEq,scL,scD,expand,List.replicate,c10])|apply gC_drawW|((first|apply gI_dec|apply gG_dec|apply gPG_dec|apply gI_var|apply gG_var|apply gPG_var)<;>intro _))
   all_goals try (exfalso;omega)
   refine callV_flat (by rw[hC];exact w1.flat rfl rfl) ?_
   repeat' (first|(simp (disch:=first|omega|assumption|exact bd (by with_unfolding_all rfl)|exact Or.inl rfl|exact Or.inl trivial|exact okL_map _ (fun _=>rfl) _|(simp only[VVlen]<;>omega)|fail) only[VV0,VV1,VV2,VV3,VV4,VV5,VV6,VV7,VV8,VV9,mkFnV,vargs,slotsL,opdsA,Nat.reduceEqDiff,Nat.reduceLT,Nat.reduceAdd,Nat.reduceBEq,Int.reduceAdd,Int.reduceSub,Int.reduceLT,Int.reduceLE,Int.reduceEq,Int.reduceNeg,↓reduceIte,reduceCtorEq,scL,scD,expand,List.replicate])|apply gC_drawW|((first|apply gI_dec|apply gG_dec|apply gPG_dec|apply gI_var|apply gG_var|apply gPG_var)<;>intro _))
   refine callV_flat (by rw[hC];exact w2.flat rfl rfl) ?_
   repeat' (first|(simp (disch:=first|omega|assumption|exact bd (by with_unfolding_all rfl)|exact Or.inl rfl|exact Or.inl trivial|exact okL_map _ (fun _=>rfl) _|(simp only[VVlen]<;>omega)|fail) only[VV0,VV1,VV2,VV3,VV4,VV5,VV6,VV7,VV8,VV9,mkFnV,vargs,slotsL,opdsA,Nat.reduceEqDiff,Nat.reduceLT,Nat.reduceAdd,Nat.reduceBEq,Int.reduceAdd,Int.reduceSub,Int.reduceLT,Int.reduceLE,Int.reduceEq,Int.reduceNeg,↓reduceIte,reduceCtorEq,scL,scD,expand,List.replicate])|apply gC_drawW|((first|apply gI_dec|apply gG_dec|apply gPG_dec|apply gI_var|apply gG_var|apply gPG_var)<;>intro _))
   exact weak_flat rfl h0 rfl
  have hb2:0≤p∨¬ M.length=N.length:=by simpa using hbad
  repeat' (first|(simp (disch:=first|omega|assumption|exact bd (by with_unfolding_all rfl)|exact Or.inl rfl|exact Or.inl trivial|exact okL_map _ (fun _=>rfl) _|(simp only[VVlen]<;>omega)|fail) only[VV0,VV1,VV2,VV3,VV4,VV5,VV6,VV7,VV8,VV9,mkFnV,vargs,slotsL,opdsA,Nat.reduceEqDiff,Nat.reduceLT,Nat.reduceAdd,Nat.reduceBEq,Int.reduceAdd,Int.reduceSub,Int.reduceLT,Int.reduceLE,Int.reduceEq,Int.reduceNeg,↓reduceIte,reduceCtorEq,scL,scD,expand,List.replicate,c10])|apply gC_drawW|((first|apply gI_dec|apply gG_dec|apply gPG_dec|apply gI_var|apply gG_var|apply gPG_var)<;>intro _))
  all_goals try (exfalso;omega)
  refine callV_flat (by rw[hC];exact w1.flat rfl rfl) ?_
  repeat' (first|(simp (disch:=first|omega|assumption|exact bd (by with_unfolding_all rfl)|exact Or.inl rfl|exact Or.inl trivial|exact okL_map _ (fun _=>rfl) _|(simp only[VVlen]<;>omega)|fail) only[VV0,VV1,VV2,VV3,VV4,VV5,VV6,VV7,VV8,VV9,mkFnV,vargs,slotsL,opdsA,Nat.reduceEqDiff,Nat.reduceLT,Nat.reduceAdd,Nat.reduceBEq,Int.reduceAdd,Int.reduceSub,Int.reduceLT,Int.reduceLE,Int.reduceEq,Int.reduceNeg,↓reduceIte,reduceCtorEq,scL,scD,expand,List.replicate])|apply gC_drawW|((first|apply gI_dec|apply gG_dec|apply gPG_dec|apply gI_var|apply gG_var|apply gPG_var)<;>intro _))
  refine callV_flat (by rw[hC];exact w2.flat rfl rfl) ?_
  repeat' (first|(simp (disch:=first|omega|assumption|exact bd (by with_unfolding_all rfl)|exact Or.inl rfl|exact Or.inl trivial|exact okL_map _ (fun _=>rfl) _|(simp only[VVlen]<;>omega)|fail) only[VV0,VV1,VV2,VV3,VV4,VV5,VV6,VV7,VV8,VV9,mkFnV,vargs,slotsL,opdsA,Nat.reduceEqDiff,Nat.reduceLT,Nat.reduceAdd,Nat.reduceBEq,Int.reduceAdd,Int.reduceSub,Int.reduceLT,Int.reduceLE,Int.reduceEq,Int.reduceNeg,↓reduceIte,reduceCtorEq,scL,scD,expand,List.replicate])|apply gC_drawW|((first|apply gI_dec|apply gG_dec|apply gPG_dec|apply gI_var|apply gG_var|apply gPG_var)<;>intro _))
  refine callV_flat (by rw[hC];exact ix.flat rfl rfl) ?_
  repeat' (first|(simp (disch:=first|omega|assumption|exact bd (by with_unfolding_all rfl)|exact Or.inl rfl|exact Or.inl trivial|exact okL_map _ (fun _=>rfl) _|(simp only[VVlen]<;>omega)|fail) only[VV0,VV1,VV2,VV3,VV4,VV5,VV6,VV7,VV8,VV9,mkFnV,vargs,slotsL,opdsA,Nat.reduceEqDiff,Nat.reduceLT,Nat.reduceAdd,Nat.reduceBEq,Int.reduceAdd,Int.reduceSub,Int.reduceLT,Int.reduceLE,Int.reduceEq,Int.reduceNeg,↓reduceIte,reduceCtorEq,scL,scD,expand,List.replicate])|apply gC_drawW|((first|apply gI_dec|apply gG_dec|apply gPG_dec|apply gI_var|apply gG_var|apply gPG_var)<;>intro _))
  all_goals try (exfalso;omega)
  all_goals exact weak_flat rfl h0 rfl
 have g3:wordsS S=true:=Decidable.byContradiction fun h=>hbad (.inl h)
 have g4:wordsS N=true:=Decidable.byContradiction fun h=>hbad (.inr (.inl h))
 have g5:¬ 0≤placeG N sizeL N.length:=fun h=>hbad (.inr (.inr (.inl h)))
 have g6:M.length=N.length:=Decidable.byContradiction fun h=>hbad (.inr (.inr (.inr h)))
 have echk:checkS S N M=if ∀ k,k<M.length→rowS M[k]! S.length=true then (if twiceS S=true∨twiceS N=true then 14 else 0) else 8:=by unfold checkS;rw[if_neg h1,if_neg hbad]
 rw[echk]
 rw[g3] at w1
 rw[g4] at w2
 clear hbad echk g3 g4
 generalize placeG N sizeL N.length=p at*
 generalize twiceS S=c at*
 generalize twiceS N=d at*
 repeat' (first|(simp (disch:=first|omega|assumption|exact bd (by with_unfolding_all rfl)|exact Or.inl rfl|exact Or.inl trivial|exact okL_map _ (fun _=>rfl) _|(simp only[VVlen]<;>omega)|fail) only[VV0,VV1,VV2,VV3,VV4,VV5,VV6,VV7,VV8,VV9,mkFnV,vargs,slotsL,opdsA,Nat.reduceEqDiff,Nat.reduceLT,Nat.reduceAdd,Nat.reduceBEq,Int.reduceAdd,Int.reduceSub,Int.reduceLT,Int.reduceLE,Int.reduceEq,Int.reduceNeg,↓reduceIte,reduceCtorEq,scL,scD,expand,List.replicate,c10])|apply gC_drawW|((first|apply gI_dec|apply gG_dec|apply gPG_dec|apply gI_var|apply gG_var|apply gPG_var)<;>intro _))
 all_goals try (exfalso;omega)
 refine callV_flat (by rw[hC];exact w1.flat rfl rfl) ?_
 repeat' (first|(simp (disch:=first|omega|assumption|exact bd (by with_unfolding_all rfl)|exact Or.inl rfl|exact Or.inl trivial|exact okL_map _ (fun _=>rfl) _|(simp only[VVlen]<;>omega)|fail) only[VV0,VV1,VV2,VV3,VV4,VV5,VV6,VV7,VV8,VV9,mkFnV,vargs,slotsL,opdsA,Nat.reduceEqDiff,Nat.reduceLT,Nat.reduceAdd,Nat.reduceBEq,Int.reduceAdd,Int.reduceSub,Int.reduceLT,Int.reduceLE,Int.reduceEq,Int.reduceNeg,↓reduceIte,reduceCtorEq,scL,scD,expand,List.replicate])|apply gC_drawW|((first|apply gI_dec|apply gG_dec|apply gPG_dec|apply gI_var|apply gG_var|apply gPG_var)<;>intro _))
 refine callV_flat (by rw[hC];exact w2.flat rfl rfl) ?_
 repeat' (first|(simp (disch:=first|omega|assumption|exact bd (by with_unfolding_all rfl)|exact Or.inl rfl|exact Or.inl trivial|exact okL_map _ (fun _=>rfl) _|(simp only[VVlen]<;>omega)|fail) only[VV0,VV1,VV2,VV3,VV4,VV5,VV6,VV7,VV8,VV9,mkFnV,vargs,slotsL,opdsA,Nat.reduceEqDiff,Nat.reduceLT,Nat.reduceAdd,Nat.reduceBEq,Int.reduceAdd,Int.reduceSub,Int.reduceLT,Int.reduceLE,Int.reduceEq,Int.reduceNeg,↓reduceIte,reduceCtorEq,scL,scD,expand,List.replicate])|apply gC_drawW|((first|apply gI_dec|apply gG_dec|apply gPG_dec|apply gI_var|apply gG_var|apply gPG_var)<;>intro _))
 refine callV_flat (by rw[hC];exact ix.flat rfl rfl) ?_
 repeat' (first|(simp (disch:=first|omega|assumption|exact bd (by with_unfolding_all rfl)|exact Or.inl rfl|exact Or.inl trivial|exact okL_map _ (fun _=>rfl) _|(simp only[VVlen]<;>omega)|fail) only[VV0,VV1,VV2,VV3,VV4,VV5,VV6,VV7,VV8,VV9,mkFnV,vargs,slotsL,opdsA,Nat.reduceEqDiff,Nat.reduceLT,Nat.reduceAdd,Nat.reduceBEq,Int.reduceAdd,Int.reduceSub,Int.reduceLT,Int.reduceLE,Int.reduceEq,Int.reduceNeg,↓reduceIte,reduceCtorEq,scL,scD,expand,List.replicate])|apply gC_drawW|((first|apply gI_dec|apply gG_dec|apply gPG_dec|apply gI_var|apply gG_var|apply gPG_var)<;>intro _))
 all_goals try (exfalso;omega)
 refine g_while (fun m fr st=>∃ k:Nat,m=M.length - k∧k≤M.length∧fr= [(1,.ptr 0 0),(4,.sc (.bool c)),(6,.sc (.bool d)),(56,rowsV u r M),(57,.sc (.int .i64 M.length)),(58,.sc (.int .i64 k))]∧st=⟨[(0,tabO s t u r S N M)],1,0⟩∧∀ j,j<k→rowS M[j]! S.length=true) M.length ?_ ⟨_,_,.refl _ _,0,by omega,Nat.zero_le _,rfl,rfl,by omega⟩ ?_
 ·rw[hC,callP_rounds];unfold many;omega
 rintro m fr st ⟨k,rfl,hk,rfl,rfl,hj⟩
 by_cases hlt:k<M.length
 case neg=>
  have:k=M.length:=by omega
  subst this
  rw[if_pos hj]
  cases c<;>cases d
  all_goals
   repeat' (first|(simp (disch:=first|omega|assumption|exact bd (by with_unfolding_all rfl)|exact Or.inl rfl|exact Or.inl trivial|exact okL_map _ (fun _=>rfl) _|(simp only[VVlen]<;>omega)|fail) only[VV0,VV1,VV2,VV3,VV4,VV5,VV6,VV7,VV8,VV9,mkFnV,vargs,slotsL,opdsA,Nat.reduceEqDiff,Nat.reduceLT,Nat.reduceAdd,Nat.reduceBEq,Int.reduceAdd,Int.reduceSub,Int.reduceLT,Int.reduceLE,Int.reduceEq,Int.reduceNeg,↓reduceIte,reduceCtorEq,scL,scD,expand,List.replicate,c10l1])|apply gC_drawW|((first|apply gI_dec|apply gG_dec|apply gPG_dec|apply gI_var|apply gG_var|apply gPG_var)<;>intro _))
   exact weak_flat rfl h0 rfl
 have hgo:=fun h=>lt_succ_cases hj (k:=k) h
 have hrow:rowS M[k]! S.length=true↔M[k]!.length=S.length∧rowTo M[k]! M[k]!.length:=by simp[rowS,rowTo]
 have fail:¬ rowS M[k]! S.length=true→(if ∀ k,k<M.length→rowS M[k]! S.length=true then (if c=true∨d=true then (14:Int) else 0) else 8)=8:=fun hw=>if_neg fun hh=>hw (hh k hlt)
 have hzl:=m6 k hlt
 by_cases hn:M[k]!.length=S.length
 case neg=>
  rw[fail (fun h=>hn (hrow.1 h).1)]
  generalize hX:M[k]! =X at*
  repeat' (first|(simp (disch:=first|omega|assumption|exact bd (by with_unfolding_all rfl)|exact Or.inl rfl|exact Or.inl trivial|exact okL_map _ (fun _=>rfl) _|(simp only[VVlen]<;>omega)|fail) only[VV0,VV1,VV2,VV3,VV4,VV5,VV6,VV7,VV8,VV9,mkFnV,vargs,slotsL,opdsA,Nat.reduceEqDiff,Nat.reduceLT,Nat.reduceAdd,Nat.reduceBEq,Int.reduceAdd,Int.reduceSub,Int.reduceLT,Int.reduceLE,Int.reduceEq,Int.reduceNeg,↓reduceIte,reduceCtorEq,scL,scD,expand,List.replicate,c10l1,rowI_dv,hX])|apply gC_drawW|((first|apply gI_dec|apply gG_dec|apply gPG_dec|apply gI_var|apply gG_var|apply gPG_var)<;>intro _))
  all_goals try (exfalso;omega)
  exact weak_flat rfl h0 rfl
 generalize hX:M[k]! =X at*
 repeat' (first|(simp (disch:=first|omega|assumption|exact bd (by with_unfolding_all rfl)|exact Or.inl rfl|exact Or.inl trivial|exact okL_map _ (fun _=>rfl) _|(simp only[VVlen]<;>omega)|fail) only[VV0,VV1,VV2,VV3,VV4,VV5,VV6,VV7,VV8,VV9,mkFnV,vargs,slotsL,opdsA,Nat.reduceEqDiff,Nat.reduceLT,Nat.reduceAdd,Nat.reduceBEq,Int.reduceAdd,Int.reduceSub,Int.reduceLT,Int.reduceLE,Int.reduceEq,Int.reduceNeg,↓reduceIte,reduceCtorEq,scL,scD,expand,List.replicate,c10l1,rowI_dv,hX])|apply gC_drawW|((first|apply gI_dec|apply gG_dec|apply gPG_dec|apply gI_var|apply gG_var|apply gPG_var)<;>intro _))
 all_goals try (exfalso;omega)
 refine g_while (fun m fr st=>∃ (i:Nat) (last:Int),m=X.length - i∧i≤X.length∧fr= [(1,.ptr 0 0),(4,.sc (.bool c)),(6,.sc (.bool d)),(9,.sc (.int .i64 last)),(56,rowsV u r M),(57,.sc (.int .i64 M.length)),(58,.sc (.int .i64 k)),(68,intsV r X),(69,.sc (.int .i64 X.length)),(70,.sc (.int .i64 i))]∧st=⟨[(0,tabO s t u r S N M)],1,0⟩∧rowTo X i∧last=if i=0 then 0 else X[i - 1]!) X.length ?_ ⟨_,_,.refl _ _,0,0,by omega,Nat.zero_le _,rfl,rfl,fun j hj=>absurd hj (Nat.not_lt_zero _),rfl⟩ ?_
 ·rw[hC,callP_rounds];unfold many;omega
 rintro m fr st ⟨i,last,rfl,hi,rfl,rfl,hrt,hla⟩
 by_cases hil:i<X.length
 ·have hlast:last=if i=0 then 0 else X[i - 1]! :=hla
  have hnx:X[i]! =if i+1=0 then 0 else X[i+1 - 1]! :=by rw[if_neg (by omega)];rfl
  by_cases hok:last≤X[i]! ∧X[i]! ≤1000000
  ·obtain ⟨ha,hb⟩:=hok
   have hrt2:rowTo X (i+1):=lt_succ_cases hrt ⟨by
    by_cases h0:i=0
    ·rw[if_pos h0] at hlast;omega
    ·rw[if_neg h0] at hlast
     have:=(hrt (i - 1) (by omega)).1
     omega,hb,fun h0=>by rw[if_neg (by omega)] at hlast;omega⟩
   clear hla
   generalize hY:X[i]! =Y at*
   repeat' (first|(simp (disch:=first|omega|assumption|exact bd (by with_unfolding_all rfl)|exact Or.inl rfl|exact Or.inl trivial|exact okL_map _ (fun _=>rfl) _|(simp only[VVlen]<;>omega)|fail) only[VV0,VV1,VV2,VV3,VV4,VV5,VV6,VV7,VV8,VV9,mkFnV,vargs,slotsL,opdsA,Nat.reduceEqDiff,Nat.reduceLT,Nat.reduceAdd,Nat.reduceBEq,Int.reduceAdd,Int.reduceSub,Int.reduceLT,Int.reduceLE,Int.reduceEq,Int.reduceNeg,↓reduceIte,reduceCtorEq,scL,scD,expand,List.replicate,c10l0,iD_dv,hY])|apply gC_drawW|((first|apply gI_dec|apply gG_dec|apply gPG_dec|apply gI_var|apply gG_var|apply gPG_var)<;>intro _))
   all_goals try (exfalso;omega)
   exact ⟨_,_,_,by omega,.refl _ _,i+1,Y,rfl,hil,rfl,rfl,hrt2,hnx⟩
  ·have hbad8:¬ rowS X S.length=true:=fun hh=>by
    have:=(hrow.1 hh).2 i hil
    apply hok
    by_cases h0:i=0
    ·rw[if_pos h0] at hlast;omega
    ·rw[if_neg h0] at hlast;have:=this.2.2 (by omega);omega
   rw[fail hbad8]
   generalize hY:X[i]! =Y at*
   by_cases ha:Y<last
   ·repeat' (first|(simp (disch:=first|omega|assumption|exact bd (by with_unfolding_all rfl)|exact Or.inl rfl|exact Or.inl trivial|exact okL_map _ (fun _=>rfl) _|(simp only[VVlen]<;>omega)|fail) only[VV0,VV1,VV2,VV3,VV4,VV5,VV6,VV7,VV8,VV9,mkFnV,vargs,slotsL,opdsA,Nat.reduceEqDiff,Nat.reduceLT,Nat.reduceAdd,Nat.reduceBEq,Int.reduceAdd,Int.reduceSub,Int.reduceLT,Int.reduceLE,Int.reduceEq,Int.reduceNeg,↓reduceIte,reduceCtorEq,scL,scD,expand,List.replicate,c10l0,iD_dv,hY])|apply gC_drawW|((first|apply gI_dec|apply gG_dec|apply gPG_dec|apply gI_var|apply gG_var|apply gPG_var)<;>intro _))
    all_goals try (exfalso;omega)
    all_goals exact weak_flat rfl h0 rfl
   ·have hb:1000000<Y:=by omega
    repeat' (first|(simp (disch:=first|omega|assumption|exact bd (by with_unfolding_all rfl)|exact Or.inl rfl|exact Or.inl trivial|exact okL_map _ (fun _=>rfl) _|(simp only[VVlen]<;>omega)|fail) only[VV0,VV1,VV2,VV3,VV4,VV5,VV6,VV7,VV8,VV9,mkFnV,vargs,slotsL,opdsA,Nat.reduceEqDiff,Nat.reduceLT,Nat.reduceAdd,Nat.reduceBEq,Int.reduceAdd,Int.reduceSub,Int.reduceLT,Int.reduceLE,Int.reduceEq,Int.reduceNeg,↓reduceIte,reduceCtorEq,scL,scD,expand,List.replicate,c10l0,iD_dv,hY])|apply gC_drawW|((first|apply gI_dec|apply gG_dec|apply gPG_dec|apply gI_var|apply gG_var|apply gPG_var)<;>intro _))
    all_goals try (exfalso;omega)
    all_goals exact weak_flat rfl h0 rfl
 ·have:i=X.length:=by omega
  subst this
  repeat' (first|(simp (disch:=first|omega|assumption|exact bd (by with_unfolding_all rfl)|exact Or.inl rfl|exact Or.inl trivial|exact okL_map _ (fun _=>rfl) _|(simp only[VVlen]<;>omega)|fail) only[VV0,VV1,VV2,VV3,VV4,VV5,VV6,VV7,VV8,VV9,mkFnV,vargs,slotsL,opdsA,Nat.reduceEqDiff,Nat.reduceLT,Nat.reduceAdd,Nat.reduceBEq,Int.reduceAdd,Int.reduceSub,Int.reduceLT,Int.reduceLE,Int.reduceEq,Int.reduceNeg,↓reduceIte,reduceCtorEq,scL,scD,expand,List.replicate,c10l0,iD_dv])|apply gC_drawW|((first|apply gI_dec|apply gG_dec|apply gPG_dec|apply gI_var|apply gG_var|apply gPG_var)<;>intro _))
  exact ⟨_,_,_,by omega,.refl _ _,k+1,rfl,hlt,rfl,rfl,hgo (hrow.2 ⟨hn,hrt⟩)⟩
theorem rcheck_p (s t u r:Nat) (S N:List (List UInt8)) (M:List (List Int)) (hm:Mod S N M):VSpec (EN w (n+3)) 11 [tableV s t u r S N M] (.sc (.int .i64 (checkS S N M))) ⟨[],0,0⟩:=by
 refine vspec_flat rfl rfl (fun _ _=>rfl) (Nat.le_of_ble_eq_true rfl) (oldVals w) rfl fun C hC h0=>?_
 obtain ⟨m1,m2,m3,m4,m5,m6⟩:=hm
 by_cases h1:20<S.length∨30<N.length
 ·have e:checkS S N M=4:=if_pos h1
  rw[e]
  repeat' (first|(simp (disch:=first|omega|assumption|exact bd (by with_unfolding_all rfl)|exact Or.inl rfl|exact Or.inl trivial|exact okL_map _ (fun _=>rfl) _|(simp only[VVlen]<;>omega)|fail) only[VV0,VV1,VV2,VV3,VV4,VV5,VV6,VV7,VV8,VV9,mkFnV,vargs,slotsL,opdsA,Nat.reduceEqDiff,Nat.reduceLT,Nat.reduceAdd,Nat.reduceBEq,Int.reduceAdd,Int.reduceSub,Int.reduceLT,Int.reduceLE,Int.reduceEq,Int.reduceNeg,↓reduceIte,reduceCtorEq,scL,scD,expand,List.replicate,c11])|apply gC_drawW|((first|apply gI_dec|apply gG_dec|apply gPG_dec|apply gI_var|apply gG_var|apply gPG_var)<;>intro _))
  all_goals try (exfalso;omega)
  all_goals exact weak_flat rfl h0 rfl
 have w1:=rwords_p w n s S m1 m4
 have w2:=rwords_p w n t N m2 m5
 have ix:=rindex_p w (n+1) t N sizeL m2
 by_cases hbad:(¬ wordsS S=true∨¬ wordsS N=true∨0≤placeG N sizeL N.length∨¬ M.length=N.length)
 ·have e:checkS S N M=8:=by unfold checkS;rw[if_neg h1,if_pos hbad]
  rw[e]
  generalize wordsS S=a at*
  generalize wordsS N=b at*
  generalize placeG N sizeL N.length=p at*
  cases a
  ·repeat' (first|(simp (disch:=first|omega|assumption|exact bd (by with_unfolding_all rfl)|exact Or.inl rfl|exact Or.inl trivial|exact okL_map _ (fun _=>rfl) _|(simp only[VVlen]<;>omega)|fail) only[VV0,VV1,VV2,VV3,VV4,VV5,VV6,VV7,VV8,VV9,mkFnV,vargs,slotsL,opdsA,Nat.reduceEqDiff,Nat.reduceLT,Nat.reduceAdd,Nat.reduceBEq,Int.reduceAdd,Int.reduceSub,Int.reduceLT,Int.reduceLE,Int.reduceEq,Int.reduceNeg,↓reduceIte,reduceCtorEq,scL,scD,expand,List.replicate,c11])|apply gC_drawW|((first|apply gI_dec|apply gG_dec|apply gPG_dec|apply gI_var|apply gG_var|apply gPG_var)<;>intro _))
   all_goals try (exfalso;omega)
   refine callV_flat (by rw[hC];exact w1.flat rfl rfl) ?_
   repeat' (first|(simp (disch:=first|omega|assumption|exact bd (by with_unfolding_all rfl)|exact Or.inl rfl|exact Or.inl trivial|exact okL_map _ (fun _=>rfl) _|(simp only[VVlen]<;>omega)|fail) only[VV0,VV1,VV2,VV3,VV4,VV5,VV6,VV7,VV8,VV9,mkFnV,vargs,slotsL,opdsA,Nat.reduceEqDiff,Nat.reduceLT,Nat.reduceAdd,Nat.reduceBEq,Int.reduceAdd,Int.reduceSub,Int.reduceLT,Int.reduceLE,Int.reduceEq,Int.reduceNeg,↓reduceIte,reduceCtorEq,scL,scD,expand,List.replicate])|apply gC_drawW|((first|apply gI_dec|apply gG_dec|apply gPG_dec|apply gI_var|apply gG_var|apply gPG_var)<;>intro _))
   exact weak_flat rfl h0 rfl
  cases b
  ·repeat' (first|(simp (disch:=first|omega|assumption|exact bd (by with_unfolding_all rfl)|exact Or.inl rfl|exact Or.inl trivial|exact okL_map _ (fun _=>rfl) _|(simp only[VVlen]<;>omega)|fail) only[VV0,VV1,VV2,VV3,VV4,VV5,VV6,VV7,VV8,VV9,mkFnV,vargs,slotsL,opdsA,Nat.reduceEqDiff,Nat.reduceLT,Nat.reduceAdd,Nat.reduceBEq,Int.reduceAdd,Int.reduceSub,Int.reduceLT,Int.reduceLE,Int.reduceEq,Int.reduceNeg,↓reduceIte,reduceCtorEq,scL,scD,expand,List.replicate,c11])|apply gC_drawW|((first|apply gI_dec|apply gG_dec|apply gPG_dec|apply gI_var|apply gG_var|apply gPG_var)<;>intro _))
   all_goals try (exfalso;omega)
   refine callV_flat (by rw[hC];exact w1.flat rfl rfl) ?_
   repeat' (first|(simp (disch:=first|omega|assumption|exact bd (by with_unfolding_all rfl)|exact Or.inl rfl|exact Or.inl trivial|exact okL_map _ (fun _=>rfl) _|(simp only[VVlen]<;>omega)|fail) only[VV0,VV1,VV2,VV3,VV4,VV5,VV6,VV7,VV8,VV9,mkFnV,vargs,slotsL,opdsA,Nat.reduceEqDiff,Nat.reduceLT,Nat.reduceAdd,Nat.reduceBEq,Int.reduceAdd,Int.reduceSub,Int.reduceLT,Int.reduceLE,Int.reduceEq,Int.reduceNeg,↓reduceIte,reduceCtorEq,scL,scD,expand,List.replicate])|apply gC_drawW|((first|apply gI_dec|apply gG_dec|apply gPG_dec|apply gI_var|apply gG_var|apply gPG_var)<;>intro _))
   refine callV_flat (by rw[hC];exact w2.flat rfl rfl) ?_
   repeat' (first|(simp (disch:=first|omega|assumption|exact bd (by with_unfolding_all rfl)|exact Or.inl rfl|exact Or.inl trivial|exact okL_map _ (fun _=>rfl) _|(simp only[VVlen]<;>omega)|fail) only[VV0,VV1,VV2,VV3,VV4,VV5,VV6,VV7,VV8,VV9,mkFnV,vargs,slotsL,opdsA,Nat.reduceEqDiff,Nat.reduceLT,Nat.reduceAdd,Nat.reduceBEq,Int.reduceAdd,Int.reduceSub,Int.reduceLT,Int.reduceLE,Int.reduceEq,Int.reduceNeg,↓reduceIte,reduceCtorEq,scL,scD,expand,List.replicate])|apply gC_drawW|((first|apply gI_dec|apply gG_dec|apply gPG_dec|apply gI_var|apply gG_var|apply gPG_var)<;>intro _))
   exact weak_flat rfl h0 rfl
  have hb2:0≤p∨¬ M.length=N.length:=by simpa using hbad
  repeat' (first|(simp (disch:=first|omega|assumption|exact bd (by with_unfolding_all rfl)|exact Or.inl rfl|exact Or.inl trivial|exact okL_map _ (fun _=>rfl) _|(simp only[VVlen]<;>omega)|fail) only[VV0,VV1,VV2,VV3,VV4,VV5,VV6,VV7,VV8,VV9,mkFnV,vargs,slotsL,opdsA,Nat.reduceEqDiff,Nat.reduceLT,Nat.reduceAdd,Nat.reduceBEq,Int.reduceAdd,Int.reduceSub,Int.reduceLT,Int.reduceLE,Int.reduceEq,Int.reduceNeg,↓reduceIte,reduceCtorEq,scL,scD,expand,List.replicate,c11])|apply gC_drawW|((first|apply gI_dec|apply gG_dec|apply gPG_dec|apply gI_var|apply gG_var|apply gPG_var)<;>intro _))
  all_goals try (exfalso;omega)
  refine callV_flat (by rw[hC];exact w1.flat rfl rfl) ?_
  repeat' (first|(simp (disch:=first|omega|assumption|exact bd (by with_unfolding_all rfl)|exact Or.inl rfl|exact Or.inl trivial|exact okL_map _ (fun _=>rfl) _|(simp only[VVlen]<;>omega)|fail) only[VV0,VV1,VV2,VV3,VV4,VV5,VV6,VV7,VV8,VV9,mkFnV,vargs,slotsL,opdsA,Nat.reduceEqDiff,Nat.reduceLT,Nat.reduceAdd,Nat.reduceBEq,Int.reduceAdd,Int.reduceSub,Int.reduceLT,Int.reduceLE,Int.reduceEq,Int.reduceNeg,↓reduceIte,reduceCtorEq,scL,scD,expand,List.replicate])|apply gC_drawW|((first|apply gI_dec|apply gG_dec|apply gPG_dec|apply gI_var|apply gG_var|apply gPG_var)<;>intro _))
  refine callV_flat (by rw[hC];exact w2.flat rfl rfl) ?_
  repeat' (first|(simp (disch:=first|omega|assumption|exact bd (by with_unfolding_all rfl)|exact Or.inl rfl|exact Or.inl trivial|exact okL_map _ (fun _=>rfl) _|(simp only[VVlen]<;>omega)|fail) only[VV0,VV1,VV2,VV3,VV4,VV5,VV6,VV7,VV8,VV9,mkFnV,vargs,slotsL,opdsA,Nat.reduceEqDiff,Nat.reduceLT,Nat.reduceAdd,Nat.reduceBEq,Int.reduceAdd,Int.reduceSub,Int.reduceLT,Int.reduceLE,Int.reduceEq,Int.reduceNeg,↓reduceIte,reduceCtorEq,scL,scD,expand,List.replicate])|apply gC_drawW|((first|apply gI_dec|apply gG_dec|apply gPG_dec|apply gI_var|apply gG_var|apply gPG_var)<;>intro _))
  refine callV_flat (by rw[hC];exact ix.flat rfl rfl) ?_
  repeat' (first|(simp (disch:=first|omega|assumption|exact bd (by with_unfolding_all rfl)|exact Or.inl rfl|exact Or.inl trivial|exact okL_map _ (fun _=>rfl) _|(simp only[VVlen]<;>omega)|fail) only[VV0,VV1,VV2,VV3,VV4,VV5,VV6,VV7,VV8,VV9,mkFnV,vargs,slotsL,opdsA,Nat.reduceEqDiff,Nat.reduceLT,Nat.reduceAdd,Nat.reduceBEq,Int.reduceAdd,Int.reduceSub,Int.reduceLT,Int.reduceLE,Int.reduceEq,Int.reduceNeg,↓reduceIte,reduceCtorEq,scL,scD,expand,List.replicate])|apply gC_drawW|((first|apply gI_dec|apply gG_dec|apply gPG_dec|apply gI_var|apply gG_var|apply gPG_var)<;>intro _))
  all_goals try (exfalso;omega)
  all_goals exact weak_flat rfl h0 rfl
 have g3:wordsS S=true:=Decidable.byContradiction fun h=>hbad (.inl h)
 have g4:wordsS N=true:=Decidable.byContradiction fun h=>hbad (.inr (.inl h))
 have g5:¬ 0≤placeG N sizeL N.length:=fun h=>hbad (.inr (.inr (.inl h)))
 have g6:M.length=N.length:=Decidable.byContradiction fun h=>hbad (.inr (.inr (.inr h)))
 have echk:checkS S N M=if ∀ k,k<M.length→rowS M[k]! S.length=true then (if twiceS S=true∨twiceS N=true then 14 else 0) else 8:=by unfold checkS;rw[if_neg h1,if_neg hbad]
 rw[echk]
 rw[g3] at w1
 rw[g4] at w2
 have t1:=fun st=>(twice_p w n s S m1).of hC rfl st rfl
 have t2:=fun st=>(twice_p w n t N m2).of hC rfl st rfl
 clear hbad echk g3 g4
 generalize placeG N sizeL N.length=p at*
 generalize twiceS S=c at*
 generalize twiceS N=d at*
 repeat' (first|(simp (disch:=first|omega|assumption|exact bd (by with_unfolding_all rfl)|exact Or.inl rfl|exact Or.inl trivial|exact okL_map _ (fun _=>rfl) _|(simp only[VVlen]<;>omega)|fail) only[VV0,VV1,VV2,VV3,VV4,VV5,VV6,VV7,VV8,VV9,mkFnV,vargs,slotsL,opdsA,Nat.reduceEqDiff,Nat.reduceLT,Nat.reduceAdd,Nat.reduceBEq,Int.reduceAdd,Int.reduceSub,Int.reduceLT,Int.reduceLE,Int.reduceEq,Int.reduceNeg,↓reduceIte,reduceCtorEq,scL,scD,expand,List.replicate,c11])|apply gC_drawW|((first|apply gI_dec|apply gG_dec|apply gPG_dec|apply gI_var|apply gG_var|apply gPG_var)<;>intro _))
 all_goals try (exfalso;omega)
 refine callV_flat (by rw[hC];exact w1.flat rfl rfl) ?_
 repeat' (first|(simp (disch:=first|omega|assumption|exact bd (by with_unfolding_all rfl)|exact Or.inl rfl|exact Or.inl trivial|exact okL_map _ (fun _=>rfl) _|(simp only[VVlen]<;>omega)|fail) only[VV0,VV1,VV2,VV3,VV4,VV5,VV6,VV7,VV8,VV9,mkFnV,vargs,slotsL,opdsA,Nat.reduceEqDiff,Nat.reduceLT,Nat.reduceAdd,Nat.reduceBEq,Int.reduceAdd,Int.reduceSub,Int.reduceLT,Int.reduceLE,Int.reduceEq,Int.reduceNeg,↓reduceIte,reduceCtorEq,scL,scD,expand,List.replicate])|apply gC_drawW|((first|apply gI_dec|apply gG_dec|apply gPG_dec|apply gI_var|apply gG_var|apply gPG_var)<;>intro _))
 refine callV_flat (by rw[hC];exact w2.flat rfl rfl) ?_
 repeat' (first|(simp (disch:=first|omega|assumption|exact bd (by with_unfolding_all rfl)|exact Or.inl rfl|exact Or.inl trivial|exact okL_map _ (fun _=>rfl) _|(simp only[VVlen]<;>omega)|fail) only[VV0,VV1,VV2,VV3,VV4,VV5,VV6,VV7,VV8,VV9,mkFnV,vargs,slotsL,opdsA,Nat.reduceEqDiff,Nat.reduceLT,Nat.reduceAdd,Nat.reduceBEq,Int.reduceAdd,Int.reduceSub,Int.reduceLT,Int.reduceLE,Int.reduceEq,Int.reduceNeg,↓reduceIte,reduceCtorEq,scL,scD,expand,List.replicate])|apply gC_drawW|((first|apply gI_dec|apply gG_dec|apply gPG_dec|apply gI_var|apply gG_var|apply gPG_var)<;>intro _))
 refine callV_flat (by rw[hC];exact ix.flat rfl rfl) ?_
 repeat' (first|(simp (disch:=first|omega|assumption|exact bd (by with_unfolding_all rfl)|exact Or.inl rfl|exact Or.inl trivial|exact okL_map _ (fun _=>rfl) _|(simp only[VVlen]<;>omega)|fail) only[VV0,VV1,VV2,VV3,VV4,VV5,VV6,VV7,VV8,VV9,mkFnV,vargs,slotsL,opdsA,Nat.reduceEqDiff,Nat.reduceLT,Nat.reduceAdd,Nat.reduceBEq,Int.reduceAdd,Int.reduceSub,Int.reduceLT,Int.reduceLE,Int.reduceEq,Int.reduceNeg,↓reduceIte,reduceCtorEq,scL,scD,expand,List.replicate])|apply gC_drawW|((first|apply gI_dec|apply gG_dec|apply gPG_dec|apply gI_var|apply gG_var|apply gPG_var)<;>intro _))
 all_goals try (exfalso;omega)
 refine g_while (fun m fr st=>∃ k:Nat,m=M.length - k∧k≤M.length∧fr= [(1,.ptr 0 0),(3,.sc (.int .i64 k))]∧st=⟨[(0,tabO s t u r S N M)],1,0⟩∧∀ j,j<k→rowS M[j]! S.length=true) M.length ?_ ⟨_,_,.refl _ _,0,by omega,Nat.zero_le _,rfl,rfl,by omega⟩ ?_
 ·rw[hC,callP_rounds];unfold many;omega
 rintro m fr st ⟨k,rfl,hk,rfl,rfl,hj⟩
 by_cases hlt:k<M.length
 case neg=>
  have:k=M.length:=by omega
  subst this
  rw[if_pos hj]
  cases c
  ·repeat' (first|(simp (disch:=first|omega|assumption|exact bd (by with_unfolding_all rfl)|exact Or.inl rfl|exact Or.inl trivial|exact okL_map _ (fun _=>rfl) _|(simp only[VVlen]<;>omega)|fail) only[VV0,VV1,VV2,VV3,VV4,VV5,VV6,VV7,VV8,VV9,mkFnV,vargs,slotsL,opdsA,Nat.reduceEqDiff,Nat.reduceLT,Nat.reduceAdd,Nat.reduceBEq,Int.reduceAdd,Int.reduceSub,Int.reduceLT,Int.reduceLE,Int.reduceEq,Int.reduceNeg,↓reduceIte,reduceCtorEq,scL,scD,expand,List.replicate,c11l0])|apply gC_drawW|((first|apply gI_dec|apply gG_dec|apply gPG_dec|apply gI_var|apply gG_var|apply gPG_var)<;>intro _))
   refine callV_flat (t1 _) ?_
   repeat' (first|(simp (disch:=first|omega|assumption|exact bd (by with_unfolding_all rfl)|exact Or.inl rfl|exact Or.inl trivial|exact okL_map _ (fun _=>rfl) _|(simp only[VVlen]<;>omega)|fail) only[VV0,VV1,VV2,VV3,VV4,VV5,VV6,VV7,VV8,VV9,mkFnV,vargs,slotsL,opdsA,Nat.reduceEqDiff,Nat.reduceLT,Nat.reduceAdd,Nat.reduceBEq,Int.reduceAdd,Int.reduceSub,Int.reduceLT,Int.reduceLE,Int.reduceEq,Int.reduceNeg,↓reduceIte,reduceCtorEq,scL,scD,expand,List.replicate])|apply gC_drawW|((first|apply gI_dec|apply gG_dec|apply gPG_dec|apply gI_var|apply gG_var|apply gPG_var)<;>intro _))
   refine callV_flat (t2 _) ?_
   cases d
   all_goals
    repeat' (first|(simp (disch:=first|omega|assumption|exact bd (by with_unfolding_all rfl)|exact Or.inl rfl|exact Or.inl trivial|exact okL_map _ (fun _=>rfl) _|(simp only[VVlen]<;>omega)|fail) only[VV0,VV1,VV2,VV3,VV4,VV5,VV6,VV7,VV8,VV9,mkFnV,vargs,slotsL,opdsA,Nat.reduceEqDiff,Nat.reduceLT,Nat.reduceAdd,Nat.reduceBEq,Int.reduceAdd,Int.reduceSub,Int.reduceLT,Int.reduceLE,Int.reduceEq,Int.reduceNeg,↓reduceIte,reduceCtorEq,scL,scD,expand,List.replicate])|apply gC_drawW|((first|apply gI_dec|apply gG_dec|apply gPG_dec|apply gI_var|apply gG_var|apply gPG_var)<;>intro _))
    exact weak_flat rfl h0 rfl
  ·repeat' (first|(simp (disch:=first|omega|assumption|exact bd (by with_unfolding_all rfl)|exact Or.inl rfl|exact Or.inl trivial|exact okL_map _ (fun _=>rfl) _|(simp only[VVlen]<;>omega)|fail) only[VV0,VV1,VV2,VV3,VV4,VV5,VV6,VV7,VV8,VV9,mkFnV,vargs,slotsL,opdsA,Nat.reduceEqDiff,Nat.reduceLT,Nat.reduceAdd,Nat.reduceBEq,Int.reduceAdd,Int.reduceSub,Int.reduceLT,Int.reduceLE,Int.reduceEq,Int.reduceNeg,↓reduceIte,reduceCtorEq,scL,scD,expand,List.replicate,c11l0])|apply gC_drawW|((first|apply gI_dec|apply gG_dec|apply gPG_dec|apply gI_var|apply gG_var|apply gPG_var)<;>intro _))
   refine callV_flat (t1 _) ?_
   repeat' (first|(simp (disch:=first|omega|assumption|exact bd (by with_unfolding_all rfl)|exact Or.inl rfl|exact Or.inl trivial|exact okL_map _ (fun _=>rfl) _|(simp only[VVlen]<;>omega)|fail) only[VV0,VV1,VV2,VV3,VV4,VV5,VV6,VV7,VV8,VV9,mkFnV,vargs,slotsL,opdsA,Nat.reduceEqDiff,Nat.reduceLT,Nat.reduceAdd,Nat.reduceBEq,Int.reduceAdd,Int.reduceSub,Int.reduceLT,Int.reduceLE,Int.reduceEq,Int.reduceNeg,↓reduceIte,reduceCtorEq,scL,scD,expand,List.replicate])|apply gC_drawW|((first|apply gI_dec|apply gG_dec|apply gPG_dec|apply gI_var|apply gG_var|apply gPG_var)<;>intro _))
   exact weak_flat rfl h0 rfl
 have hgo:=fun h=>lt_succ_cases hj (k:=k) h
 have hzl:=m6 k hlt
 have hrw:=fun st=>(row_p w (n+1) r M[k]! hzl S.length m1).of hC rfl st rfl
 cases hw:rowS M[k]! S.length with
 |false=>
  rw[if_neg fun hh=>by rw[hh k hlt] at hw;cases hw]
  rw[hw] at hrw
  generalize hX:M[k]! =X at*
  repeat' (first|(simp (disch:=first|omega|assumption|exact bd (by with_unfolding_all rfl)|exact Or.inl rfl|exact Or.inl trivial|exact okL_map _ (fun _=>rfl) _|(simp only[VVlen]<;>omega)|fail) only[VV0,VV1,VV2,VV3,VV4,VV5,VV6,VV7,VV8,VV9,mkFnV,vargs,slotsL,opdsA,Nat.reduceEqDiff,Nat.reduceLT,Nat.reduceAdd,Nat.reduceBEq,Int.reduceAdd,Int.reduceSub,Int.reduceLT,Int.reduceLE,Int.reduceEq,Int.reduceNeg,↓reduceIte,reduceCtorEq,scL,scD,expand,List.replicate,c11l0,rowI_dv,hX])|apply gC_drawW|((first|apply gI_dec|apply gG_dec|apply gPG_dec|apply gI_var|apply gG_var|apply gPG_var)<;>intro _))
  refine callV_flat (hrw _) ?_
  repeat' (first|(simp (disch:=first|omega|assumption|exact bd (by with_unfolding_all rfl)|exact Or.inl rfl|exact Or.inl trivial|exact okL_map _ (fun _=>rfl) _|(simp only[VVlen]<;>omega)|fail) only[VV0,VV1,VV2,VV3,VV4,VV5,VV6,VV7,VV8,VV9,mkFnV,vargs,slotsL,opdsA,Nat.reduceEqDiff,Nat.reduceLT,Nat.reduceAdd,Nat.reduceBEq,Int.reduceAdd,Int.reduceSub,Int.reduceLT,Int.reduceLE,Int.reduceEq,Int.reduceNeg,↓reduceIte,reduceCtorEq,scL,scD,expand,List.replicate])|apply gC_drawW|((first|apply gI_dec|apply gG_dec|apply gPG_dec|apply gI_var|apply gG_var|apply gPG_var)<;>intro _))
  exact weak_flat rfl h0 rfl
 |true=>
  have hgo2:=hgo hw
  rw[hw] at hrw
  generalize hX:M[k]! =X at*
  repeat' (first|(simp (disch:=first|omega|assumption|exact bd (by with_unfolding_all rfl)|exact Or.inl rfl|exact Or.inl trivial|exact okL_map _ (fun _=>rfl) _|(simp only[VVlen]<;>omega)|fail) only[VV0,VV1,VV2,VV3,VV4,VV5,VV6,VV7,VV8,VV9,mkFnV,vargs,slotsL,opdsA,Nat.reduceEqDiff,Nat.reduceLT,Nat.reduceAdd,Nat.reduceBEq,Int.reduceAdd,Int.reduceSub,Int.reduceLT,Int.reduceLE,Int.reduceEq,Int.reduceNeg,↓reduceIte,reduceCtorEq,scL,scD,expand,List.replicate,c11l0,rowI_dv,hX])|apply gC_drawW|((first|apply gI_dec|apply gG_dec|apply gPG_dec|apply gI_var|apply gG_var|apply gPG_var)<;>intro _))
  refine callV_flat (hrw _) ?_
  repeat' (first|(simp (disch:=first|omega|assumption|exact bd (by with_unfolding_all rfl)|exact Or.inl rfl|exact Or.inl trivial|exact okL_map _ (fun _=>rfl) _|(simp only[VVlen]<;>omega)|fail) only[VV0,VV1,VV2,VV3,VV4,VV5,VV6,VV7,VV8,VV9,mkFnV,vargs,slotsL,opdsA,Nat.reduceEqDiff,Nat.reduceLT,Nat.reduceAdd,Nat.reduceBEq,Int.reduceAdd,Int.reduceSub,Int.reduceLT,Int.reduceLE,Int.reduceEq,Int.reduceNeg,↓reduceIte,reduceCtorEq,scL,scD,expand,List.replicate])|apply gC_drawW|((first|apply gI_dec|apply gG_dec|apply gPG_dec|apply gI_var|apply gG_var|apply gPG_var)<;>intro _))
  exact ⟨_,_,_,by omega,.refl _ _,k+1,rfl,hlt,rfl,rfl,hgo2⟩
end
def greatS (S N:List (List UInt8)) (M:List (List Int)):Bool:=
 decide (30<S.length∨40<N.length∨40<M.length∨(∃ j,j<S.length∧60<S[j]!.length)∨(∃ j,j<N.length∧60<N[j]!.length)∨∃ j,j<M.length∧40<M[j]!.length)
section
variable (w:World) (n:Nat)
theorem great_p (s t u r:Nat) (S N:List (List UInt8)) (M:List (List Int)) (hm:S.length≤140737488351232∧N.length≤140737488351232∧M.length≤140737488351232) (zs:∀ j,j<S.length→S[j]!.length≤140737488351232) (zn:∀ j,j<N.length→N[j]!.length≤140737488351232) (zm:∀ j,j<M.length→M[j]!.length≤140737488351232):VSpec (EN w (n+1)) 5 [tableV s t u r S N M] (.sc (.bool (greatS S N M))) ⟨[],0,0⟩:=by
 refine vspec_flat rfl rfl (fun _ _=>rfl) (Nat.le_of_ble_eq_true rfl) (oldVals w) rfl fun C hC h0=>?_
 have yes:(30<S.length∨40<N.length∨40<M.length∨(∃ j,j<S.length∧60<S[j]!.length)∨(∃ j,j<N.length∧60<N[j]!.length)∨∃ j,j<M.length∧40<M[j]!.length)→greatS S N M=true:=fun h=>decide_eq_true h
 by_cases h1:30<S.length∨40<N.length∨40<M.length
 ·rw[yes (by omega)]
  repeat' (first|(simp (disch:=first|omega|assumption|exact bd (by with_unfolding_all rfl)|exact Or.inl rfl|exact Or.inl trivial|exact okL_map _ (fun _=>rfl) _|(simp only[VVlen]<;>omega)|fail) only[VV0,VV1,VV2,VV3,VV4,VV5,VV6,VV7,VV8,VV9,mkFnV,vargs,slotsL,opdsA,Nat.reduceEqDiff,Nat.reduceLT,Nat.reduceAdd,Nat.reduceBEq,Int.reduceAdd,Int.reduceSub,Int.reduceLT,Int.reduceLE,Int.reduceEq,Int.reduceNeg,↓reduceIte,reduceCtorEq,scL,scD,expand,List.replicate,c5])|apply gC_drawW|((first|apply gI_dec|apply gG_dec|apply gPG_dec|apply gI_var|apply gG_var|apply gPG_var)<;>intro _))
  all_goals try (exfalso;omega)
  all_goals exact weak_flat rfl h0 rfl
 repeat' (first|(simp (disch:=first|omega|assumption|exact bd (by with_unfolding_all rfl)|exact Or.inl rfl|exact Or.inl trivial|exact okL_map _ (fun _=>rfl) _|(simp only[VVlen]<;>omega)|fail) only[VV0,VV1,VV2,VV3,VV4,VV5,VV6,VV7,VV8,VV9,mkFnV,vargs,slotsL,opdsA,Nat.reduceEqDiff,Nat.reduceLT,Nat.reduceAdd,Nat.reduceBEq,Int.reduceAdd,Int.reduceSub,Int.reduceLT,Int.reduceLE,Int.reduceEq,Int.reduceNeg,↓reduceIte,reduceCtorEq,scL,scD,expand,List.replicate,c5])|apply gC_drawW|((first|apply gI_dec|apply gG_dec|apply gPG_dec|apply gI_var|apply gG_var|apply gPG_var)<;>intro _))
 all_goals try (exfalso;omega)
 refine g_while (fun m fr st=>∃ k:Nat,m=S.length - k∧k≤S.length∧fr= [(1,.ptr 0 0),(3,.sc (.int .i64 k))]∧st=⟨[(0,tabO s t u r S N M)],1,0⟩∧∀ j,j<k→¬ 60<S[j]!.length) S.length ?_ ⟨_,_,.refl _ _,0,by omega,Nat.zero_le _,rfl,rfl,by omega⟩ ?_
 ·rw[hC,callP_rounds];unfold many;omega
 rintro m fr st ⟨k,rfl,hk,rfl,rfl,hj⟩
 by_cases hlt:k<S.length
 ·have hz:=zs k hlt
  have hsz:=mk_size S[k]!
  by_cases hb:60<S[k]!.length
  ·rw[yes (.inr (.inr (.inr (.inl ⟨k,hlt,hb⟩))))]
   generalize hX:S[k]! =X at*
   repeat' (first|(simp (disch:=first|omega|assumption|exact bd (by with_unfolding_all rfl)|exact Or.inl rfl|exact Or.inl trivial|exact okL_map _ (fun _=>rfl) _|(simp only[VVlen]<;>omega)|fail) only[VV0,VV1,VV2,VV3,VV4,VV5,VV6,VV7,VV8,VV9,mkFnV,vargs,slotsL,opdsA,Nat.reduceEqDiff,Nat.reduceLT,Nat.reduceAdd,Nat.reduceBEq,Int.reduceAdd,Int.reduceSub,Int.reduceLT,Int.reduceLE,Int.reduceEq,Int.reduceNeg,↓reduceIte,reduceCtorEq,scL,scD,expand,List.replicate,c5l2,sD_dv,hX])|apply gC_drawW|((first|apply gI_dec|apply gG_dec|apply gPG_dec|apply gI_var|apply gG_var|apply gPG_var)<;>intro _))
   all_goals try (exfalso;omega)
   exact weak_flat rfl h0 rfl
  ·have hj:=lt_succ_cases hj hb
   generalize hX:S[k]! =X at*
   repeat' (first|(simp (disch:=first|omega|assumption|exact bd (by with_unfolding_all rfl)|exact Or.inl rfl|exact Or.inl trivial|exact okL_map _ (fun _=>rfl) _|(simp only[VVlen]<;>omega)|fail) only[VV0,VV1,VV2,VV3,VV4,VV5,VV6,VV7,VV8,VV9,mkFnV,vargs,slotsL,opdsA,Nat.reduceEqDiff,Nat.reduceLT,Nat.reduceAdd,Nat.reduceBEq,Int.reduceAdd,Int.reduceSub,Int.reduceLT,Int.reduceLE,Int.reduceEq,Int.reduceNeg,↓reduceIte,reduceCtorEq,scL,scD,expand,List.replicate,c5l2,sD_dv,hX])|apply gC_drawW|((first|apply gI_dec|apply gG_dec|apply gPG_dec|apply gI_var|apply gG_var|apply gPG_var)<;>intro _))
   all_goals try (exfalso;omega)
   exact ⟨_,_,_,by omega,.refl _ _,k+1,rfl,hlt,rfl,rfl,hj⟩
 have:k=S.length:=by omega
 subst this
 repeat' (first|(simp (disch:=first|omega|assumption|exact bd (by with_unfolding_all rfl)|exact Or.inl rfl|exact Or.inl trivial|exact okL_map _ (fun _=>rfl) _|(simp only[VVlen]<;>omega)|fail) only[VV0,VV1,VV2,VV3,VV4,VV5,VV6,VV7,VV8,VV9,mkFnV,vargs,slotsL,opdsA,Nat.reduceEqDiff,Nat.reduceLT,Nat.reduceAdd,Nat.reduceBEq,Int.reduceAdd,Int.reduceSub,Int.reduceLT,Int.reduceLE,Int.reduceEq,Int.reduceNeg,↓reduceIte,reduceCtorEq,scL,scD,expand,List.replicate,c5l2])|apply gC_drawW|((first|apply gI_dec|apply gG_dec|apply gPG_dec|apply gI_var|apply gG_var|apply gPG_var)<;>intro _))
 all_goals try (exfalso;omega)
 refine g_while (fun m fr st=>∃ k:Nat,m=N.length - k∧k≤N.length∧fr= [(1,.ptr 0 0),(4,.sc (.int .i64 k))]∧st=⟨[(0,tabO s t u r S N M)],1,0⟩∧∀ j,j<k→¬ 60<N[j]!.length) N.length ?_ ⟨_,_,.refl _ _,0,by omega,Nat.zero_le _,rfl,rfl,by omega⟩ ?_
 ·rw[hC,callP_rounds];unfold many;omega
 rintro m fr st ⟨k,rfl,hk,rfl,rfl,hj2⟩
 by_cases hlt:k<N.length
 ·have hz:=zn k hlt
  have hsz:=mk_size N[k]!
  by_cases hb:60<N[k]!.length
  ·rw[yes (.inr (.inr (.inr (.inr (.inl ⟨k,hlt,hb⟩)))))]
   generalize hX:N[k]! =X at*
   repeat' (first|(simp (disch:=first|omega|assumption|exact bd (by with_unfolding_all rfl)|exact Or.inl rfl|exact Or.inl trivial|exact okL_map _ (fun _=>rfl) _|(simp only[VVlen]<;>omega)|fail) only[VV0,VV1,VV2,VV3,VV4,VV5,VV6,VV7,VV8,VV9,mkFnV,vargs,slotsL,opdsA,Nat.reduceEqDiff,Nat.reduceLT,Nat.reduceAdd,Nat.reduceBEq,Int.reduceAdd,Int.reduceSub,Int.reduceLT,Int.reduceLE,Int.reduceEq,Int.reduceNeg,↓reduceIte,reduceCtorEq,scL,scD,expand,List.replicate,c5l1,sD_dv,hX])|apply gC_drawW|((first|apply gI_dec|apply gG_dec|apply gPG_dec|apply gI_var|apply gG_var|apply gPG_var)<;>intro _))
   all_goals try (exfalso;omega)
   exact weak_flat rfl h0 rfl
  ·have hj:=lt_succ_cases hj2 hb
   generalize hX:N[k]! =X at*
   repeat' (first|(simp (disch:=first|omega|assumption|exact bd (by with_unfolding_all rfl)|exact Or.inl rfl|exact Or.inl trivial|exact okL_map _ (fun _=>rfl) _|(simp only[VVlen]<;>omega)|fail) only[VV0,VV1,VV2,VV3,VV4,VV5,VV6,VV7,VV8,VV9,mkFnV,vargs,slotsL,opdsA,Nat.reduceEqDiff,Nat.reduceLT,Nat.reduceAdd,Nat.reduceBEq,Int.reduceAdd,Int.reduceSub,Int.reduceLT,Int.reduceLE,Int.reduceEq,Int.reduceNeg,↓reduceIte,reduceCtorEq,scL,scD,expand,List.replicate,c5l1,sD_dv,hX])|apply gC_drawW|((first|apply gI_dec|apply gG_dec|apply gPG_dec|apply gI_var|apply gG_var|apply gPG_var)<;>intro _))
   all_goals try (exfalso;omega)
   exact ⟨_,_,_,by omega,.refl _ _,k+1,rfl,hlt,rfl,rfl,hj⟩
 have:k=N.length:=by omega
 subst this
 repeat' (first|(simp (disch:=first|omega|assumption|exact bd (by with_unfolding_all rfl)|exact Or.inl rfl|exact Or.inl trivial|exact okL_map _ (fun _=>rfl) _|(simp only[VVlen]<;>omega)|fail) only[VV0,VV1,VV2,VV3,VV4,VV5,VV6,VV7,VV8,VV9,mkFnV,vargs,slotsL,opdsA,Nat.reduceEqDiff,Nat.reduceLT,Nat.reduceAdd,Nat.reduceBEq,Int.reduceAdd,Int.reduceSub,Int.reduceLT,Int.reduceLE,Int.reduceEq,Int.reduceNeg,↓reduceIte,reduceCtorEq,scL,scD,expand,List.replicate,c5l1])|apply gC_drawW|((first|apply gI_dec|apply gG_dec|apply gPG_dec|apply gI_var|apply gG_var|apply gPG_var)<;>intro _))
 all_goals try (exfalso;omega)
 refine g_while (fun m fr st=>∃ k:Nat,m=M.length - k∧k≤M.length∧fr= [(1,.ptr 0 0),(5,.sc (.int .i64 k))]∧st=⟨[(0,tabO s t u r S N M)],1,0⟩∧∀ j,j<k→¬ 40<M[j]!.length) M.length ?_ ⟨_,_,.refl _ _,0,by omega,Nat.zero_le _,rfl,rfl,by omega⟩ ?_
 ·rw[hC,callP_rounds];unfold many;omega
 rintro m fr st ⟨k,rfl,hk,rfl,rfl,hj3⟩
 by_cases hlt:k<M.length
 ·have hz:=zm k hlt
  by_cases hb:40<M[k]!.length
  ·rw[yes (.inr (.inr (.inr (.inr (.inr ⟨k,hlt,hb⟩)))))]
   generalize hX:M[k]! =X at*
   repeat' (first|(simp (disch:=first|omega|assumption|exact bd (by with_unfolding_all rfl)|exact Or.inl rfl|exact Or.inl trivial|exact okL_map _ (fun _=>rfl) _|(simp only[VVlen]<;>omega)|fail) only[VV0,VV1,VV2,VV3,VV4,VV5,VV6,VV7,VV8,VV9,mkFnV,vargs,slotsL,opdsA,Nat.reduceEqDiff,Nat.reduceLT,Nat.reduceAdd,Nat.reduceBEq,Int.reduceAdd,Int.reduceSub,Int.reduceLT,Int.reduceLE,Int.reduceEq,Int.reduceNeg,↓reduceIte,reduceCtorEq,scL,scD,expand,List.replicate,c5l0,rowI_dv,hX])|apply gC_drawW|((first|apply gI_dec|apply gG_dec|apply gPG_dec|apply gI_var|apply gG_var|apply gPG_var)<;>intro _))
   all_goals try (exfalso;omega)
   exact weak_flat rfl h0 rfl
  ·have hj:=lt_succ_cases hj3 hb
   generalize hX:M[k]! =X at*
   repeat' (first|(simp (disch:=first|omega|assumption|exact bd (by with_unfolding_all rfl)|exact Or.inl rfl|exact Or.inl trivial|exact okL_map _ (fun _=>rfl) _|(simp only[VVlen]<;>omega)|fail) only[VV0,VV1,VV2,VV3,VV4,VV5,VV6,VV7,VV8,VV9,mkFnV,vargs,slotsL,opdsA,Nat.reduceEqDiff,Nat.reduceLT,Nat.reduceAdd,Nat.reduceBEq,Int.reduceAdd,Int.reduceSub,Int.reduceLT,Int.reduceLE,Int.reduceEq,Int.reduceNeg,↓reduceIte,reduceCtorEq,scL,scD,expand,List.replicate,c5l0,rowI_dv,hX])|apply gC_drawW|((first|apply gI_dec|apply gG_dec|apply gPG_dec|apply gI_var|apply gG_var|apply gPG_var)<;>intro _))
   all_goals try (exfalso;omega)
   exact ⟨_,_,_,by omega,.refl _ _,k+1,rfl,hlt,rfl,rfl,hj⟩
 have:k=M.length:=by omega
 subst this
 have e:greatS S N M=false:=decide_eq_false (by
  rintro (h|h|h|⟨j,h,h'⟩|⟨j,h,h'⟩|⟨j,h,h'⟩)
  ·omega
  ·omega
  ·omega
  ·exact hj j h h'
  ·exact hj2 j h h'
  ·exact hj3 j h h')
 rw[e]
 repeat' (first|(simp (disch:=first|omega|assumption|exact bd (by with_unfolding_all rfl)|exact Or.inl rfl|exact Or.inl trivial|exact okL_map _ (fun _=>rfl) _|(simp only[VVlen]<;>omega)|fail) only[VV0,VV1,VV2,VV3,VV4,VV5,VV6,VV7,VV8,VV9,mkFnV,vargs,slotsL,opdsA,Nat.reduceEqDiff,Nat.reduceLT,Nat.reduceAdd,Nat.reduceBEq,Int.reduceAdd,Int.reduceSub,Int.reduceLT,Int.reduceLE,Int.reduceEq,Int.reduceNeg,↓reduceIte,reduceCtorEq,scL,scD,expand,List.replicate,c5l0])|apply gC_drawW|((first|apply gI_dec|apply gG_dec|apply gPG_dec|apply gI_var|apply gG_var|apply gPG_var)<;>intro _))
 all_goals try (exfalso;omega)
 exact weak_flat rfl h0 rfl
end
section
variable (w:World) (n:Nat)
theorem same36_p (s s':Nat) (l:List Int) (hl:l.length≤100000000):VSpec (EN w (n+1)) 20 [intsV s l,intsV s' l] (.sc (.bool true)) ⟨[],0,0⟩:=by
 refine vspec_flat rfl rfl (fun _ _=>rfl) (Nat.le_of_ble_eq_true rfl) (oldVals w) rfl fun C hC h0=>?_
 repeat' (first|(simp (disch:=first|omega|assumption|exact bd (by with_unfolding_all rfl)|exact Or.inl rfl|exact Or.inl trivial|exact okL_map _ (fun _=>rfl) _|(simp only[VVlen]<;>omega)|fail) only[VV0,VV1,VV2,VV3,VV4,VV5,VV6,VV7,VV8,VV9,mkFnV,vargs,slotsL,opdsA,Nat.reduceEqDiff,Nat.reduceLT,Nat.reduceAdd,Nat.reduceBEq,Int.reduceAdd,Int.reduceSub,Int.reduceLT,Int.reduceLE,Int.reduceEq,Int.reduceNeg,↓reduceIte,reduceCtorEq,scL,scD,expand,List.replicate,c20])|apply gC_drawW|((first|apply gI_dec|apply gG_dec|apply gPG_dec|apply gI_var|apply gG_var|apply gPG_var)<;>intro _))
 refine g_while (fun m fr st=>∃ k:Nat,m=l.length - k∧k≤l.length∧fr= [(0,intsV s l),(1,intsV s' l),(5,.sc (.int .i64 k))]∧st=⟨[],0,0⟩) l.length ?_ ⟨_,_,.refl _ _,0,by omega,Nat.zero_le _,rfl,rfl⟩ ?_
 ·rw[hC,callP_rounds];unfold many;omega
 rintro m fr st ⟨k,rfl,hk,rfl,rfl⟩
 by_cases hlt:k<l.length
 ·generalize hX:l[k]! =X at*
  repeat' (first|(simp (disch:=first|omega|assumption|exact bd (by with_unfolding_all rfl)|exact Or.inl rfl|exact Or.inl trivial|exact okL_map _ (fun _=>rfl) _|(simp only[VVlen]<;>omega)|fail) only[VV0,VV1,VV2,VV3,VV4,VV5,VV6,VV7,VV8,VV9,mkFnV,vargs,slotsL,opdsA,Nat.reduceEqDiff,Nat.reduceLT,Nat.reduceAdd,Nat.reduceBEq,Int.reduceAdd,Int.reduceSub,Int.reduceLT,Int.reduceLE,Int.reduceEq,Int.reduceNeg,↓reduceIte,reduceCtorEq,scL,scD,expand,List.replicate,c20l0,iD_dv,hX])|apply gC_drawW|((first|apply gI_dec|apply gG_dec|apply gPG_dec|apply gI_var|apply gG_var|apply gPG_var)<;>intro _))
  all_goals try (exfalso;omega)
  exact ⟨_,_,_,by omega,.refl _ _,k+1,rfl,hlt,rfl,rfl⟩
 ·have:k=l.length:=by omega
  subst this
  repeat' (first|(simp (disch:=first|omega|assumption|exact bd (by with_unfolding_all rfl)|exact Or.inl rfl|exact Or.inl trivial|exact okL_map _ (fun _=>rfl) _|(simp only[VVlen]<;>omega)|fail) only[VV0,VV1,VV2,VV3,VV4,VV5,VV6,VV7,VV8,VV9,mkFnV,vargs,slotsL,opdsA,Nat.reduceEqDiff,Nat.reduceLT,Nat.reduceAdd,Nat.reduceBEq,Int.reduceAdd,Int.reduceSub,Int.reduceLT,Int.reduceLE,Int.reduceEq,Int.reduceNeg,↓reduceIte,reduceCtorEq,scL,scD,expand,List.replicate,c20l0])|apply gC_drawW|((first|apply gI_dec|apply gG_dec|apply gPG_dec|apply gI_var|apply gG_var|apply gPG_var)<;>intro _))
  exact weak_flat rfl h0 rfl
theorem same_p (s t u r s' t' u' r':Nat) (S N:List (List UInt8)) (M:List (List Int)) (hm:Mod S N M):VSpec (EN w (n+2)) 21 [tableV s t u r S N M,tableV s' t' u' r' S N M] (.sc (.bool true)) ⟨[],0,0⟩:=by
 refine vspec_flat rfl rfl (fun _ _=>rfl) (Nat.le_of_ble_eq_true rfl) (oldVals w) rfl fun C hC h0=>?_
 obtain ⟨m1,m2,m3,m4,m5,m6⟩:=hm
 have hrn:C.E.rounds=many:=by rw[hC,callP_rounds]
 repeat' (first|(simp (disch:=first|omega|assumption|exact bd (by with_unfolding_all rfl)|exact Or.inl rfl|exact Or.inl trivial|exact okL_map _ (fun _=>rfl) _|(simp only[VVlen]<;>omega)|fail) only[VV0,VV1,VV2,VV3,VV4,VV5,VV6,VV7,VV8,VV9,mkFnV,vargs,slotsL,opdsA,Nat.reduceEqDiff,Nat.reduceLT,Nat.reduceAdd,Nat.reduceBEq,Int.reduceAdd,Int.reduceSub,Int.reduceLT,Int.reduceLE,Int.reduceEq,Int.reduceNeg,↓reduceIte,reduceCtorEq,scL,scD,expand,List.replicate,c21])|apply gC_drawW|((first|apply gI_dec|apply gG_dec|apply gPG_dec|apply gI_var|apply gG_var|apply gPG_var)<;>intro _))
 all_goals try (exfalso;omega)
 refine g_while (fun m fr st=>∃ k:Nat,m=S.length - k∧k≤S.length∧fr= [(2,.ptr 0 0),(3,.ptr 1 0),(5,.sc (.int .i64 k))]∧st=⟨[(1,tabO s' t' u' r' S N M),(0,tabO s t u r S N M)],2,0⟩) S.length ?_ ⟨_,_,.refl _ _,0,by omega,Nat.zero_le _,rfl,rfl⟩ ?_
 ·rw[hrn];unfold many;omega
 rintro m fr st ⟨k,rfl,hk,rfl,rfl⟩
 by_cases hlt:k<S.length
 ·generalize hX:S[k]! =X at*
  repeat' (first|(simp (disch:=first|omega|assumption|exact bd (by with_unfolding_all rfl)|exact Or.inl rfl|exact Or.inl trivial|exact okL_map _ (fun _=>rfl) _|(simp only[VVlen]<;>omega)|fail) only[VV0,VV1,VV2,VV3,VV4,VV5,VV6,VV7,VV8,VV9,mkFnV,vargs,slotsL,opdsA,Nat.reduceEqDiff,Nat.reduceLT,Nat.reduceAdd,Nat.reduceBEq,Int.reduceAdd,Int.reduceSub,Int.reduceLT,Int.reduceLE,Int.reduceEq,Int.reduceNeg,↓reduceIte,reduceCtorEq,scL,scD,expand,List.replicate,c21l2,sD_dv,hX])|apply gC_drawW|((first|apply gI_dec|apply gG_dec|apply gPG_dec|apply gI_var|apply gG_var|apply gPG_var)<;>intro _))
  all_goals try (exfalso;omega)
  exact ⟨_,_,_,by omega,.refl _ _,k+1,rfl,hlt,rfl,rfl⟩
 have:k=S.length:=by omega
 subst this
 repeat' (first|(simp (disch:=first|omega|assumption|exact bd (by with_unfolding_all rfl)|exact Or.inl rfl|exact Or.inl trivial|exact okL_map _ (fun _=>rfl) _|(simp only[VVlen]<;>omega)|fail) only[VV0,VV1,VV2,VV3,VV4,VV5,VV6,VV7,VV8,VV9,mkFnV,vargs,slotsL,opdsA,Nat.reduceEqDiff,Nat.reduceLT,Nat.reduceAdd,Nat.reduceBEq,Int.reduceAdd,Int.reduceSub,Int.reduceLT,Int.reduceLE,Int.reduceEq,Int.reduceNeg,↓reduceIte,reduceCtorEq,scL,scD,expand,List.replicate,c21l2])|apply gC_drawW|((first|apply gI_dec|apply gG_dec|apply gPG_dec|apply gI_var|apply gG_var|apply gPG_var)<;>intro _))
 all_goals try (exfalso;omega)
 refine g_while (fun m fr st=>∃ k:Nat,m=N.length - k∧k≤N.length∧fr= [(2,.ptr 0 0),(3,.ptr 1 0),(6,.sc (.int .i64 k))]∧st=⟨[(1,tabO s' t' u' r' S N M),(0,tabO s t u r S N M)],2,0⟩) N.length ?_ ⟨_,_,.refl _ _,0,by omega,Nat.zero_le _,rfl,rfl⟩ ?_
 ·rw[hrn];unfold many;omega
 rintro m fr st ⟨k,rfl,hk,rfl,rfl⟩
 by_cases hlt:k<N.length
 ·generalize hX:N[k]! =X at*
  repeat' (first|(simp (disch:=first|omega|assumption|exact bd (by with_unfolding_all rfl)|exact Or.inl rfl|exact Or.inl trivial|exact okL_map _ (fun _=>rfl) _|(simp only[VVlen]<;>omega)|fail) only[VV0,VV1,VV2,VV3,VV4,VV5,VV6,VV7,VV8,VV9,mkFnV,vargs,slotsL,opdsA,Nat.reduceEqDiff,Nat.reduceLT,Nat.reduceAdd,Nat.reduceBEq,Int.reduceAdd,Int.reduceSub,Int.reduceLT,Int.reduceLE,Int.reduceEq,Int.reduceNeg,↓reduceIte,reduceCtorEq,scL,scD,expand,List.replicate,c21l1,sD_dv,hX])|apply gC_drawW|((first|apply gI_dec|apply gG_dec|apply gPG_dec|apply gI_var|apply gG_var|apply gPG_var)<;>intro _))
  all_goals try (exfalso;omega)
  exact ⟨_,_,_,by omega,.refl _ _,k+1,rfl,hlt,rfl,rfl⟩
 have:k=N.length:=by omega
 subst this
 repeat' (first|(simp (disch:=first|omega|assumption|exact bd (by with_unfolding_all rfl)|exact Or.inl rfl|exact Or.inl trivial|exact okL_map _ (fun _=>rfl) _|(simp only[VVlen]<;>omega)|fail) only[VV0,VV1,VV2,VV3,VV4,VV5,VV6,VV7,VV8,VV9,mkFnV,vargs,slotsL,opdsA,Nat.reduceEqDiff,Nat.reduceLT,Nat.reduceAdd,Nat.reduceBEq,Int.reduceAdd,Int.reduceSub,Int.reduceLT,Int.reduceLE,Int.reduceEq,Int.reduceNeg,↓reduceIte,reduceCtorEq,scL,scD,expand,List.replicate,c21l1])|apply gC_drawW|((first|apply gI_dec|apply gG_dec|apply gPG_dec|apply gI_var|apply gG_var|apply gPG_var)<;>intro _))
 all_goals try (exfalso;omega)
 refine g_while (fun m fr st=>∃ k:Nat,m=M.length - k∧k≤M.length∧fr= [(2,.ptr 0 0),(3,.ptr 1 0),(7,.sc (.int .i64 k))]∧st=⟨[(1,tabO s' t' u' r' S N M),(0,tabO s t u r S N M)],2,0⟩) M.length ?_ ⟨_,_,.refl _ _,0,by omega,Nat.zero_le _,rfl,rfl⟩ ?_
 ·rw[hrn];unfold many;omega
 rintro m fr st ⟨k,rfl,hk,rfl,rfl⟩
 by_cases hlt:k<M.length
 ·have hsm:=same36_p w n r r' M[k]! (m6 k hlt)
  generalize hX:M[k]! =X at*
  repeat' (first|(simp (disch:=first|omega|assumption|exact bd (by with_unfolding_all rfl)|exact Or.inl rfl|exact Or.inl trivial|exact okL_map _ (fun _=>rfl) _|(simp only[VVlen]<;>omega)|fail) only[VV0,VV1,VV2,VV3,VV4,VV5,VV6,VV7,VV8,VV9,mkFnV,vargs,slotsL,opdsA,Nat.reduceEqDiff,Nat.reduceLT,Nat.reduceAdd,Nat.reduceBEq,Int.reduceAdd,Int.reduceSub,Int.reduceLT,Int.reduceLE,Int.reduceEq,Int.reduceNeg,↓reduceIte,reduceCtorEq,scL,scD,expand,List.replicate,c21l0,rowI_dv,hX])|apply gC_drawW|((first|apply gI_dec|apply gG_dec|apply gPG_dec|apply gI_var|apply gG_var|apply gPG_var)<;>intro _))
  all_goals try (exfalso;omega)
  refine callV_flat (by rw[hC];exact hsm.flat rfl rfl) ?_
  repeat' (first|(simp (disch:=first|omega|assumption|exact bd (by with_unfolding_all rfl)|exact Or.inl rfl|exact Or.inl trivial|exact okL_map _ (fun _=>rfl) _|(simp only[VVlen]<;>omega)|fail) only[VV0,VV1,VV2,VV3,VV4,VV5,VV6,VV7,VV8,VV9,mkFnV,vargs,slotsL,opdsA,Nat.reduceEqDiff,Nat.reduceLT,Nat.reduceAdd,Nat.reduceBEq,Int.reduceAdd,Int.reduceSub,Int.reduceLT,Int.reduceLE,Int.reduceEq,Int.reduceNeg,↓reduceIte,reduceCtorEq,scL,scD,expand,List.replicate])|apply gC_drawW|((first|apply gI_dec|apply gG_dec|apply gPG_dec|apply gI_var|apply gG_var|apply gPG_var)<;>intro _))
  exact ⟨_,_,_,by omega,.refl _ _,k+1,rfl,hlt,rfl,rfl⟩
 have:k=M.length:=by omega
 subst this
 repeat' (first|(simp (disch:=first|omega|assumption|exact bd (by with_unfolding_all rfl)|exact Or.inl rfl|exact Or.inl trivial|exact okL_map _ (fun _=>rfl) _|(simp only[VVlen]<;>omega)|fail) only[VV0,VV1,VV2,VV3,VV4,VV5,VV6,VV7,VV8,VV9,mkFnV,vargs,slotsL,opdsA,Nat.reduceEqDiff,Nat.reduceLT,Nat.reduceAdd,Nat.reduceBEq,Int.reduceAdd,Int.reduceSub,Int.reduceLT,Int.reduceLE,Int.reduceEq,Int.reduceNeg,↓reduceIte,reduceCtorEq,scL,scD,expand,List.replicate,c21l0])|apply gC_drawW|((first|apply gI_dec|apply gG_dec|apply gPG_dec|apply gI_var|apply gG_var|apply gPG_var)<;>intro _))
 all_goals try (exfalso;omega)
 exact weak_flat rfl h0 rfl
end
section
variable (w:World) (n:Nat)
def withL {α:Type} (l:List α) (at_:Nat) (x:α):List α:=l.take at_++x::l.drop at_
theorem withi_p (s:Nat) (l:List Int) (k:Nat) (x:Int) (hl:l.length≤1000000) (h0:0<k) (hk:k≤l.length):VSpec (EN w (n+1)) 39 [intsV s l,.sc (.int .i64 k),.sc (.int .i64 x)] (.gr 2 0 (l.length+1)) ⟨[(0,.gro 3 1 false ((withL l k x).map iD))],1,0⟩:=by
 refine vspec_g rfl rfl (fun _ _=>rfl) (Nat.le_of_ble_eq_true rfl) (oldVals w) (retOK_gr (by constructor<;>intro h<;>simp[withL] at h)) rfl fun C hC h0=>?_
 have s1:∀ H:VHp,srcOf H 1 (.sl (kindS s) k (List.map iD (List.take (k - 0) l)))=some (k,(l.take k).map iD,[]):=fun H=>by
  rw[Nat.sub_zero];exact srcOf_sl H 1 _ k _ (by simp;omega)
 have hkl:((l.take k).map iD).length=k:=by simp;omega
 have ok1:okL ((l.take k).map iD)=true:=okL_map _ (fun _=>rfl) _
 have s2:∀ H:VHp,srcOf H 1 (.sl (kindS s) (l.length - k) (List.map iD (List.take (l.length - k) (List.drop k l))))=some (l.length - k,(l.drop k).map iD,[]):=fun H=>by
  rw[List.take_of_length_le (by simp)];exact srcOf_sl H 1 _ _ _ (by simp)
 have hkd:((l.drop k).map iD).length=l.length - k:=by simp
 have ok2:okL ((l.drop k).map iD)=true:=okL_map _ (fun _=>rfl) _
 have hk1:((l.take k).map iD++ [D.sc (.int .i64 x)]).length=k+1:=by rw[List.length_append,hkl];rfl
 have ok3:okL ((l.take k).map iD++ [D.sc (.int .i64 x)])=true:=by simp only[okL,List.all_append,Bool.and_eq_true];exact ⟨ok1,rfl⟩
 have ew:(l.take k).map iD++ [D.sc (.int .i64 x)]++(l.drop k).map iD=(withL l k x).map iD:=by simp[withL,iD]
 repeat' (first|(simp (disch:=first|omega|assumption|exact bd (by with_unfolding_all rfl)|exact Or.inl rfl|exact Or.inl trivial|exact okL_map _ (fun _=>rfl) _|(simp only[VVlen]<;>omega)|fail) only[VV0,VV1,VV2,VV3,VV4,VV5,VV6,VV7,VV8,VV9,mkFnV,vargs,slotsL,opdsA,Nat.reduceEqDiff,Nat.reduceLT,Nat.reduceAdd,Nat.reduceBEq,Int.reduceAdd,Int.reduceSub,Int.reduceLT,Int.reduceLE,Int.reduceEq,Int.reduceNeg,↓reduceIte,reduceCtorEq,scL,scD,expand,List.replicate,c39,s1,s2,vd_app,dAppX_gr,dApp_gr,dAppO_one])|apply gC_drawW|((first|apply gI_dec|apply gG_dec|apply gPG_dec|apply gI_var|apply gG_var|apply gPG_var)<;>intro _))
 rw[ew,show k+1+(l.length - k)=l.length+1 by omega]
 exact weak_to [(4,0)] 1 h0 rfl rfl rfl rfl
theorem withs_p (s:Nat) (l:List (List UInt8)) (k:Nat) (x:List UInt8) (hl:l.length≤1000000) (h0:0<k) (hk:k≤l.length):VSpec (EN w (n+1)) 40 [strs s l,.sc (.int .i64 k),strV x] (.gr 2 0 (l.length+1)) ⟨[(0,.gro 9 1 false ((withL l k x).map sD))],1,0⟩:=by
 refine vspec_g rfl rfl (fun _ _=>rfl) (Nat.le_of_ble_eq_true rfl) (oldVals w) (retOK_gr (by constructor<;>intro h<;>simp[withL] at h)) rfl fun C hC h0=>?_
 have s1:∀ H:VHp,srcOf H 1 (.sl (kindS s) k (List.map sD (List.take (k - 0) l)))=some (k,(l.take k).map sD,[]):=fun H=>by
  rw[Nat.sub_zero];exact srcOf_sl H 1 _ k _ (by simp;omega)
 have hkl:((l.take k).map sD).length=k:=by simp;omega
 have ok1:okL ((l.take k).map sD)=true:=okL_map _ (fun _=>rfl) _
 have s2:∀ H:VHp,srcOf H 1 (.sl (kindS s) (l.length - k) (List.map sD (List.take (l.length - k) (List.drop k l))))=some (l.length - k,(l.drop k).map sD,[]):=fun H=>by
  rw[List.take_of_length_le (by simp)];exact srcOf_sl H 1 _ _ _ (by simp)
 have hkd:((l.drop k).map sD).length=l.length - k:=by simp
 have ok2:okL ((l.drop k).map sD)=true:=okL_map _ (fun _=>rfl) _
 have hk1:((l.take k).map sD++ [D.sc (.string ⟨x.toArray⟩)]).length=k+1:=by rw[List.length_append,hkl];rfl
 have ok3:okL ((l.take k).map sD++ [D.sc (.string ⟨x.toArray⟩)])=true:=by simp only[okL,List.all_append,Bool.and_eq_true];exact ⟨ok1,rfl⟩
 have ew:(l.take k).map sD++ [D.sc (.string ⟨x.toArray⟩)]++(l.drop k).map sD=(withL l k x).map sD:=by simp[withL,sD]
 repeat' (first|(simp (disch:=first|omega|assumption|exact bd (by with_unfolding_all rfl)|exact Or.inl rfl|exact Or.inl trivial|exact okL_map _ (fun _=>rfl) _|(simp only[VVlen]<;>omega)|fail) only[VV0,VV1,VV2,VV3,VV4,VV5,VV6,VV7,VV8,VV9,mkFnV,vargs,slotsL,opdsA,Nat.reduceEqDiff,Nat.reduceLT,Nat.reduceAdd,Nat.reduceBEq,Int.reduceAdd,Int.reduceSub,Int.reduceLT,Int.reduceLE,Int.reduceEq,Int.reduceNeg,↓reduceIte,reduceCtorEq,scL,scD,expand,List.replicate,c40,s1,s2,vd_app,dAppX_gr,dApp_gr,dAppO_one])|apply gC_drawW|((first|apply gI_dec|apply gG_dec|apply gPG_dec|apply gI_var|apply gG_var|apply gPG_var)<;>intro _))
 rw[ew,show k+1+(l.length - k)=l.length+1 by omega]
 exact weak_to [(4,0)] 1 h0 rfl rfl rfl rfl
end
abbrev iN (k:Int):V:= .sc (.int .i64 k)
abbrev nilS:V:= .sc (.slice none 0 0)
def putH (S N:List (List UInt8)) (M:List (List Int)) (at_:Nat) (q:Nat) (B:List Int) (j:Int):VHp:= [(4,.box 3 1 [iN j]),(3,.box 25 1 [nilS,nilS,nilS]),(2,.box 39 1 [intsV q B]),(1,.box 3 1 [iN at_]),(0,tabO 3 3 3 1 S N M)]
def rowsP (M:List (List Int)) (at_:Nat) (B:List Int) (j:Nat):List D:=(List.range j).map (fun i=>rowI 4 (withL M[i]! at_ B[i]!))++List.replicate (M.length - j) (.sc (.slice none 0 0))
section
variable (w:World) (n:Nat)
theorem withiF (s:Nat) (l:List Int) (k:Nat) (x:Int) (hl:l.length≤1000000) (h0:0<k) (hk:k≤l.length):VSpec (EN w (n+1)) 39 [intsV s l,iN k,iN x] (.sl 4 (l.length+1) ((withL l k x).map iD)) ⟨[],0,0⟩:=
 (withi_p w n s l k x hl h0 hk).fin (snap_grD rfl (by simp[withL];omega)) rfl rfl rfl (fun h=>h)
theorem put1_w {C:Ctx} (hC:C.E=EN w (n+2)) (S N:List (List UInt8)) (M:List (List Int)) (at_ q:Nat) (B:List Int) (k:Nat) (R:List D) (hat:0<at_) (hB:B.length=M.length) (hk:k<M.length) (hr:at_≤M[k]!.length) (hl:M[k]!.length≤1000000) (hM:M.length≤1000000):
 CallV C 38 [.sl 1 M[k]!.length (M[k]!.map iD),.ptr 4 0,.ptr 1 0,.ptr 2 0] ⟨(11,.row 39 1 false false R)::(10,.gro 9 1 false (N.map sD))::(8,.gro 9 1 false (S.map sD))::(6,.box 25 1 [nilS,nilS,nilS])::(5,tabO 3 3 3 1 S N M)::putH S N M at_ q B (k - 1),13,0⟩
  fun v' st'=>v'= .sl 4 (M[k]!.length+1) ((withL M[k]! at_ B[k]!).map iD)∧st'=⟨(11,.row 39 1 false false R)::(10,.gro 9 1 false (N.map sD))::(8,.gro 9 1 false (S.map sD))::(6,.box 25 1 [nilS,nilS,nilS])::(5,tabO 3 3 3 1 S N M)::putH S N M at_ q B k,13,0⟩:=by
 refine callV_w (prims:=PR w) hC rfl rfl (fun _ _=>rfl) (Nat.le_of_ble_eq_true rfl) ⟨rfl,rfl⟩ fun C' hC' hn=>?_
 have hw:=withiF w n 1 M[k]! at_ B[k]! hl hat hr
 have hkB:k<B.length:=by omega
 have e1:((k:Int) - 1+1)=k:=by omega
 generalize hx:M[k]! =X at*
 generalize hy:B[k]! =y at*
 repeat' (first|(simp (disch:=first|omega|assumption|exact bd (by with_unfolding_all rfl)|exact Or.inl rfl|exact Or.inl trivial|exact okL_map _ (fun _=>rfl) _|(simp only[VVlen]<;>omega)|fail) only[VV0,VV1,VV2,VV3,VV4,VV5,VV6,VV7,VV8,VV9,mkFnV,vargs,slotsL,opdsA,Nat.reduceEqDiff,Nat.reduceLT,Nat.reduceAdd,Nat.reduceBEq,Int.reduceAdd,Int.reduceSub,Int.reduceLT,Int.reduceLE,Int.reduceEq,Int.reduceNeg,↓reduceIte,reduceCtorEq,scL,scD,expand,List.replicate,c38,putH,e1,iD_dv,hy])|apply gC_drawW|((first|apply gI_dec|apply gG_dec|apply gPG_dec|apply gI_var|apply gG_var|apply gPG_var)<;>intro _))
 refine callV_fin (by rw[hC'];exact hw) rfl rfl (fun _=>rfl) ?_
 exact .refl _ _
end
set_option maxHeartbeats 4000000
section
variable (w:World) (n:Nat)
theorem gL_weak {C:Ctx} {ks:List Nat} {b:AC} {K:List KF} {fr fr':VFr} {st st':VSt} {P:VPost} (hw:Weak C fr st fr' st') (h:gL C ks b K fr' st' P):gL C ks b K fr st P:=fun frI s hr=>h frI s (hw s frI hr)
def eachH (S N:List (List UInt8)) (M:List (List Int)) (R:List D):VHp→VHp:=fun r=>(12,.box 25 1 [.gr 2 8 S.length,.gr 2 10 N.length,.ref 11 0 M.length M.length])::(11,.row 39 1 false false R)::(10,.gro 9 1 false (N.map sD))::(8,.gro 9 1 false (S.map sD))::(6,.box 25 1 [nilS,nilS,nilS])::(5,tabO 3 3 3 1 S N M)::r
theorem rowsP_zero (M:List (List Int)) (at_:Nat) (B:List Int):rowsP M at_ B 0=List.replicate M.length (.sc (.slice none 0 0)):=by simp[rowsP]
theorem rowsP_len (M:List (List Int)) (at_:Nat) (B:List Int) (j:Nat) (h:j≤M.length):(rowsP M at_ B j).length=M.length:=by simp[rowsP];omega
theorem rowsP_set (M:List (List Int)) (at_:Nat) (B:List Int) (j:Nat) (h:j<M.length):(rowsP M at_ B j).set j (rowI 4 (withL M[j]! at_ B[j]!))=rowsP M at_ B (j+1):=by
 unfold rowsP
 rw[List.set_append_right _ _ (by simp),List.range_succ,List.map_append,List.append_assoc]
 congr 1
 rw[show M.length - j=(M.length - (j+1))+1 by omega,List.replicate_succ]
 simp
theorem each1_w {C:Ctx} (hC:C.E=EN w (n+3)) (S N:List (List UInt8)) (M:List (List Int)) (at_ q:Nat) (B:List Int) (hat:0<at_) (hB:B.length=M.length) (hr:∀ k,k<M.length→at_≤M[k]!.length) (hl:∀ k,k<M.length→M[k]!.length≤1000000) (hM:M.length≤1000000) (hS:S.length≤1000000) (hN:N.length≤1000000) (hS0:0<S.length) (hN0:0<N.length):
 CallV C 34 [tableV 3 3 3 1 S N M,.fn 38 [] [.ptr 4 0,.ptr 1 0,.ptr 2 0]] ⟨putH S N M at_ q B (-1),5,0⟩
  fun v' st'=>v'= .agg [.gr 2 5 S.length,.gr 2 6 N.length,.ref 7 0 M.length M.length]∧st'=⟨(7,.row 39 1 false false (rowsP M at_ B M.length))::(6,.gro 9 1 false (N.map sD))::(5,.gro 9 1 false (S.map sD))::putH S N M at_ q B (M.length - 1),8,0⟩:=by
 refine callV_w (prims:=PR w) hC rfl rfl (fun _ _=>rfl) (Nat.le_of_ble_eq_true rfl) ⟨rfl,rfl⟩ fun C' hC' hn=>?_
 replace hn:C'.w0.nx=5:=hn
 have s1:∀ H:VHp,srcOf H 1 (strs 3 S)=some (S.length,S.map sD,[]):=fun H=>srcOf_sl H 1 _ _ _ (by simp)
 have s2:∀ H:VHp,srcOf H 1 (strs 3 N)=some (N.length,N.map sD,[]):=fun H=>srcOf_sl H 1 _ _ _ (by simp)
 have okS:okL (S.map sD)=true:=okL_map _ (fun _=>rfl) _
 have okN:okL (N.map sD)=true:=okL_map _ (fun _=>rfl) _
 have nS:S.length ≠ 0:=by omega
 have nN:N.length ≠ 0:=by omega
 repeat' (first|(simp (disch:=first|omega|assumption|exact bd (by with_unfolding_all rfl)|exact Or.inl rfl|exact Or.inl trivial|exact okL_map _ (fun _=>rfl) _|(simp only[VVlen]<;>omega)|fail) only[VV0,VV1,VV2,VV3,VV4,VV5,VV6,VV7,VV8,VV9,mkFnV,vargs,slotsL,opdsA,Nat.reduceEqDiff,Nat.reduceLT,Nat.reduceAdd,Nat.reduceBEq,Int.reduceAdd,Int.reduceSub,Int.reduceLT,Int.reduceLE,Int.reduceEq,Int.reduceNeg,↓reduceIte,reduceCtorEq,scL,scD,expand,List.replicate,c34,putH,s1,s2])|apply gC_drawW|((first|apply gI_dec|apply gG_dec|apply gPG_dec|apply gI_var|apply gG_var|apply gPG_var)<;>intro _))
 rw[← rowsP_zero M at_ B]
 refine gL_weak (weak_toB [(12,12),(11,11),(10,10),(8,8),(6,6),(5,5),(4,4),(3,3),(2,2),(1,1),(0,0)] 13 (by omega) rfl (by rw[hn];rfl) rfl rfl) ?_
 refine g_while (fun m fr st=>∃ j:Nat,m=M.length - j∧j≤M.length∧fr= [(1,.fn 38 [] [.ptr 4 0,.ptr 1 0,.ptr 2 0]),(4,.ptr 6 0),(5,.ptr 12 0),(22,rowsV 3 1 M),(23,iN M.length),(24,iN j)]∧
  st=⟨eachH S N M (rowsP M at_ B j) (putH S N M at_ q B (j - 1)),13,0⟩) M.length ?_ ⟨_,_,?_,0,by omega,Nat.zero_le _,rfl,rfl⟩ ?_
 ·rw[hC',callP_rounds];unfold many;omega
 ·exact .refl _ _
 rintro m fr st ⟨j,rfl,hj,rfl,rfl⟩
 by_cases hlt:j<M.length
 ·have hp:=fun C'' (h'':C''.E=C'.E)=>put1_w w n (C:=C'') (by rw[h'',hC']) S N M at_ q B j (rowsP M at_ B j) hat hB hlt (hr j hlt) (hl j hlt) hM
  simp (disch:=first|omega|assumption|exact bd (by with_unfolding_all rfl)|exact Or.inl rfl|exact Or.inl trivial|exact okL_map _ (fun _=>rfl) _|(simp only[VVlen]<;>omega)|fail) only[VV0,VV1,VV2,VV3,VV4,VV5,VV6,VV7,VV8,VV9,mkFnV,vargs,slotsL,opdsA,Nat.reduceEqDiff,Nat.reduceLT,Nat.reduceAdd,Nat.reduceBEq,Int.reduceAdd,Int.reduceSub,Int.reduceLT,Int.reduceLE,Int.reduceEq,Int.reduceNeg,↓reduceIte,reduceCtorEq,scL,scD,expand,List.replicate,c34l0,eachH,putH]
  refine gC_drawWC (l:= [⟨⟨some 29,none,.fldA 2 (.tmp 5)⟩,[],none⟩,⟨⟨some 30,none,.load none (.tmp 29)⟩,[],none⟩,⟨⟨some 31,none,.mov (.tmp 6)⟩,[0,1],none⟩,⟨⟨some 32,none,.mov (.tmp 1)⟩,[0,1,2],none⟩,⟨⟨some 33,none,.mov (.tmp 7)⟩,[0,1,2,3],none⟩])
   (o:=12) (k:=0) rfl rfl (by decide) ⟨_,rfl,rfl⟩ ?_
  simp (disch:=first|omega|assumption|exact bd (by with_unfolding_all rfl)|exact Or.inl rfl|exact Or.inl trivial|exact okL_map _ (fun _=>rfl) _|(simp only[VVlen]<;>omega)|fail) only[VV0,VV1,VV2,VV3,VV4,VV5,VV6,VV7,VV8,VV9,mkFnV,vargs,slotsL,opdsA,Nat.reduceEqDiff,Nat.reduceLT,Nat.reduceAdd,Nat.reduceBEq,Int.reduceAdd,Int.reduceSub,Int.reduceLT,Int.reduceLE,Int.reduceEq,Int.reduceNeg,↓reduceIte,reduceCtorEq,scL,scD,expand,List.replicate,wpD_cons,wpDV_some,wpD_nil]
  refine ⟨_,_,_,_,_,_,_,rfl,rfl,rfl,?_,rfl,rfl,rfl,rfl,rfl,Nat.zero_le _,?_,?_,fun C'' h'' _=>hp C'' h'',?_⟩
  ·intro ys s;rw[hC'];rfl
  ·rfl
  ·exact noH_get rfl
  ·have hL:=rowsP_len M at_ B j hj
   have hset:=rowsP_set M at_ B j hlt
   unfold rowI at hset
   rw[show (withL M[j]! at_ B[j]!).length=M[j]!.length+1 by have:=hr j hlt;simp[withL];try omega] at hset
   repeat' (first|(simp (disch:=first|omega|assumption|exact bd (by with_unfolding_all rfl)|exact Or.inl rfl|exact Or.inl trivial|exact okL_map _ (fun _=>rfl) _|(simp only[VVlen]<;>omega)|fail) only[VV0,VV1,VV2,VV3,VV4,VV5,VV6,VV7,VV8,VV9,mkFnV,vargs,slotsL,opdsA,Nat.reduceEqDiff,Nat.reduceLT,Nat.reduceAdd,Nat.reduceBEq,Int.reduceAdd,Int.reduceSub,Int.reduceLT,Int.reduceLE,Int.reduceEq,Int.reduceNeg,↓reduceIte,reduceCtorEq,scL,scD,expand,List.replicate,putH,hset])|apply gC_drawW|((first|apply gI_dec|apply gG_dec|apply gPG_dec|apply gI_var|apply gG_var|apply gPG_var)<;>intro _))
   exact ⟨_,_,_,by omega,.refl _ _,j+1,rfl,hlt,rfl,by rw[show ((j+1:Nat):Int) - 1=j by omega];try rfl⟩
 ·have:j=M.length:=by omega
  subst this
  repeat' (first|(simp (disch:=first|omega|assumption|exact bd (by with_unfolding_all rfl)|exact Or.inl rfl|exact Or.inl trivial|exact okL_map _ (fun _=>rfl) _|(simp only[VVlen]<;>omega)|fail) only[VV0,VV1,VV2,VV3,VV4,VV5,VV6,VV7,VV8,VV9,mkFnV,vargs,slotsL,opdsA,Nat.reduceEqDiff,Nat.reduceLT,Nat.reduceAdd,Nat.reduceBEq,Int.reduceAdd,Int.reduceSub,Int.reduceLT,Int.reduceLE,Int.reduceEq,Int.reduceNeg,↓reduceIte,reduceCtorEq,scL,scD,expand,List.replicate,c34l0,eachH,putH])|apply gC_drawW|((first|apply gI_dec|apply gG_dec|apply gPG_dec|apply gI_var|apply gG_var|apply gPG_var)<;>intro _))
  exact weak_toB [(11,7),(10,6),(8,5),(4,4),(3,3),(2,2),(1,1),(0,0)] 8 (by omega) rfl (by rw[hn];rfl) rfl rfl
end
def rowsW (M:List (List Int)) (at_:Nat) (B:List Int):List (List Int):=(List.range M.length).map fun i=>withL M[i]! at_ B[i]!
theorem rowsP_all (M:List (List Int)) (at_:Nat) (B:List Int):rowsP M at_ B M.length=(rowsW M at_ B).map (rowI 4):=by
 simp[rowsP,rowsW,Function.comp_def]
theorem rowsW_len (M:List (List Int)) (at_:Nat) (B:List Int):(rowsW M at_ B).length=M.length:=by simp[rowsW]
section
variable (w:World) (n:Nat)
theorem finA {C:Ctx} {st:VSt} {v v':V} (hs:snapV st.own v=some v') (hrow:rowsB st.ro st.own (fzS v)=true) (hro:st.ro=0) (hren:vren [] v'=v') (h0:C.w0.nx=0):Weak C [(0,v)] st [(0,v')] ⟨[],0,0⟩:=
 (weak_snap (t:=0) rfl hs hrow).trans (weak_to [] 0 h0 hro rfl (by show renF [] [(0,v')]=_;rw[renF_cons,renF_nil,hren]) rfl)
theorem snap_3 {H:VHp} {a b c a' b' c':V} (h1:snapV H a=some a') (h2:snapV H b=some b') (h3:snapV H c=some c'):snapV H (.agg [a,b,c])=some (.agg [a',b',c']):=by
 simp only[snapV,snapL,h1,h2,h3,Option.bind_some,Option.map_some]
theorem put_p (S N:List (List UInt8)) (M:List (List Int)) (at_ q:Nat) (B:List Int) (x:List UInt8) (hat:0<at_) (hB:B.length=M.length) (hr:∀ k,k<M.length→at_≤M[k]!.length) (hl:∀ k,k<M.length→M[k]!.length≤1000000) (hM:M.length≤1000000) (hS:S.length≤1000000) (hN:N.length≤1000000) (hS0:0<S.length) (hN0:0<N.length) (hSa:at_≤S.length):
 VSpec (EN w (n+4)) 31 [tableV 3 3 3 1 S N M,iN at_,strV x,intsV q B] (tableV 4 4 4 4 (withL S at_ x) N (rowsW M at_ B)) ⟨[],0,0⟩:=by
 refine vspec_g rfl rfl (fun _ _=>rfl) (Nat.le_of_ble_eq_true rfl) (oldVals w) (retOK_nil (by simp only[Cl,ClL,and_true,true_and];trivial)) rfl fun C hC h0=>?_
 obtain ⟨v,st',⟨rfl,rfl⟩,he⟩:=each1_w w n hC S N M at_ q B hat hB hr hl hM hS hN hS0 hN0
 have hw:=withs_p w (n+2) 3 S at_ x hS hat hSa
 have eS:(withL S at_ x).length=S.length+1:=by simp[withL];omega
 have eM:=rowsW_len M at_ B
 repeat' (first|(simp (disch:=first|omega|assumption|exact bd (by with_unfolding_all rfl)|exact Or.inl rfl|exact Or.inl trivial|exact okL_map _ (fun _=>rfl) _|(simp only[VVlen]<;>omega)|fail) only[VV0,VV1,VV2,VV3,VV4,VV5,VV6,VV7,VV8,VV9,mkFnV,vargs,slotsL,opdsA,Nat.reduceEqDiff,Nat.reduceLT,Nat.reduceAdd,Nat.reduceBEq,Int.reduceAdd,Int.reduceSub,Int.reduceLT,Int.reduceLE,Int.reduceEq,Int.reduceNeg,↓reduceIte,reduceCtorEq,scL,scD,expand,List.replicate,c31])|apply gC_drawW|((first|apply gI_dec|apply gG_dec|apply gPG_dec|apply gI_var|apply gG_var|apply gPG_var)<;>intro _))
 refine ⟨_,_,?_,he⟩
 rw[rowsP_all]
 repeat' (first|(simp (disch:=first|omega|assumption|exact bd (by with_unfolding_all rfl)|exact Or.inl rfl|exact Or.inl trivial|exact okL_map _ (fun _=>rfl) _|(simp only[VVlen]<;>omega)|fail) only[VV0,VV1,VV2,VV3,VV4,VV5,VV6,VV7,VV8,VV9,mkFnV,vargs,slotsL,opdsA,Nat.reduceEqDiff,Nat.reduceLT,Nat.reduceAdd,Nat.reduceBEq,Int.reduceAdd,Int.reduceSub,Int.reduceLT,Int.reduceLE,Int.reduceEq,Int.reduceNeg,↓reduceIte,reduceCtorEq,scL,scD,expand,List.replicate,putH])|apply gC_drawW|((first|apply gI_dec|apply gG_dec|apply gPG_dec|apply gI_var|apply gG_var|apply gPG_var)<;>intro _))
 refine callV_of (by rw[hC];exact hw) rfl rfl rfl ?_
 repeat' (first|(simp (disch:=first|omega|assumption|exact bd (by with_unfolding_all rfl)|exact Or.inl rfl|exact Or.inl trivial|exact okL_map _ (fun _=>rfl) _|(simp only[VVlen]<;>omega)|fail) only[VV0,VV1,VV2,VV3,VV4,VV5,VV6,VV7,VV8,VV9,mkFnV,vargs,slotsL,opdsA,Nat.reduceEqDiff,Nat.reduceLT,Nat.reduceAdd,Nat.reduceBEq,Int.reduceAdd,Int.reduceSub,Int.reduceLT,Int.reduceLE,Int.reduceEq,Int.reduceNeg,↓reduceIte,reduceCtorEq,scL,scD,expand,List.replicate,vsh,vshL,shH,shO,fzSL,fzS,frozA_none])|apply gC_drawW|((first|apply gI_dec|apply gG_dec|apply gPG_dec|apply gI_var|apply gG_var|apply gPG_var)<;>intro _))
 refine finA (snap_3 (a':=strs 4 (withL S at_ x)) (b':=strs 4 N) (c':=rowsV 4 4 (rowsW M at_ B)) ?_ (snap_grD (n:=N.length) (l:=N.map sD) rfl (by simp)) ?_) rfl rfl rfl h0
 ·rw[show strs 4 (withL S at_ x)= .sl 4 (S.length+1) ((withL S at_ x).map sD) by rw[← eS]]
  exact snap_grD rfl (by simp[eS])
 ·rw[show rowsV 4 4 (rowsW M at_ B)= .sl 4 M.length ((rowsW M at_ B).map (rowI 4)) by rw[← eM]]
  exact snap_refD rfl (by simp[eM])
end
structure Val (S N:List (List UInt8)) (M:List (List Int)):Prop where
 s:S.length≤20
 n:N.length≤30
 ws:wordsS S=true
 wn:wordsS N=true
 sz:¬ 0≤placeG N sizeL N.length
 m:M.length=N.length
 r:∀ k,k<M.length→rowS M[k]! S.length=true
 ts:twiceS S=false
 tn:twiceS N=false
theorem val_iff (S N:List (List UInt8)) (M:List (List Int)):checkS S N M=0↔Val S N M:=by
 unfold checkS
 constructor
 ·intro h
  split at h
  ·cases h
  rename_i h1
  split at h
  ·cases h
  rename_i h2
  split at h
  ·rename_i h3
   split at h
   ·cases h
   ·rename_i h4
    simp only[not_or,Decidable.not_not] at h2
    simp only[not_or,Bool.not_eq_true] at h4
    exact ⟨by omega,by omega,h2.1,h2.2.1,h2.2.2.1,h2.2.2.2,h3,h4.1,h4.2⟩
  ·cases h
 ·rintro ⟨a,b,c,d,e,f,g,h,i⟩
  rw[if_neg (by omega),if_neg (by simp only[not_or,Decidable.not_not];exact ⟨c,d,e,f⟩),if_pos g,if_neg (by rw[h,i];simp)]
section
variable {S N:List (List UInt8)} {M:List (List Int)} (v:Val S N M)
include v
theorem Val.row {k:Nat} (hk:k<M.length):M[k]!.length=S.length∧∀ j,j<M[k]!.length→0≤M[k]![j]! ∧M[k]![j]! ≤1000000∧(0<j→M[k]![j - 1]! ≤M[k]![j]!):=of_decide_eq_true (v.r k hk)
theorem Val.s1:0<S.length:=((wF_iff S S.length).1 v.ws).1
theorem Val.n1:0<N.length:=((wF_iff N N.length).1 v.wn).1
theorem Val.wsj {j:Nat} (hj:j<S.length):wordS S[j]! =true:=((wF_iff S S.length).1 v.ws).2 j hj
end
def bet (l:List Int) (i:Nat) (num den:Int):Int:=(2*(l[i]! *(den - num)+l[i+1]! *num)+den) / (2*den)
def betL (M:List (List Int)) (i:Nat) (num den:Int):List Int:=M.map fun l=>bet l i num den
def argB (n:Nat) (i num den:Int):Prop:=0≤i∧i<n - 1∧1≤den∧den≤1000∧0≤num∧num≤den
instance (n:Nat) (i num den:Int):Decidable (argB n i num den):=by unfold argB;infer_instance
def isInt (x:Int):Prop:= -9223372036854775808≤x∧x≤9223372036854775807
def fillF (f:Nat→Int) (m j:Nat):List D:=(List.range j).map (fun i=>iD (f i))++List.replicate (m - j) (.sc (.int .i64 0))
theorem fillF_zero (f:Nat→Int) (m:Nat):fillF f m 0=List.replicate m (.sc (.int .i64 0)):=by simp[fillF]
theorem fillF_len (f:Nat→Int) (m j:Nat) (h:j≤m):(fillF f m j).length=m:=by simp[fillF];omega
theorem fillF_set (f:Nat→Int) (m j:Nat) (h:j<m):(fillF f m j).set j (.sc (.int .i64 (f j)))=fillF f m (j+1):=by
 unfold fillF
 rw[List.set_append_right _ _ (by simp),List.range_succ,List.map_append,List.append_assoc]
 congr 1
 rw[show m - j=(m - (j+1))+1 by omega,List.replicate_succ]
 simp[iD]
theorem fillF_all (l:List Int) (g:Int→Int):fillF (fun i=>g l[i]!) l.length l.length=(l.map g).map iD:=by
 simp only[fillF,Nat.sub_self,List.replicate_zero,List.append_nil]
 apply List.ext_getElem
 ·simp
 ·intro i h1 h2
  simp at h1 ⊢
  simp[h1]
theorem fillF_rows (M:List (List Int)) (g:List Int→Int):fillF (fun i=>g M[i]!) M.length M.length=(M.map g).map iD:=by
 simp only[fillF,Nat.sub_self,List.replicate_zero,List.append_nil]
 apply List.ext_getElem
 ·simp
 ·intro i h1 h2
  simp at h1 ⊢
  simp[h1]
section
variable (w:World) (n:Nat)
theorem between_bad (S N:List (List UInt8)) (M:List (List Int)) (hm:Mod S N M) (i num den:Int) (hi:isInt i) (hnum:isInt num) (hden:isInt den) (h:checkS S N M=0) (ha:¬ argB S.length i num den):
 VSpec (EN w (n+4)) 12 [tableV 3 3 3 1 S N M,iN i,iN num,iN den] (.tup [.sl 3 0 [],iN 2]) ⟨[],0,0⟩:=by
 refine vspec_g rfl rfl (fun _ _=>rfl) (Nat.le_of_ble_eq_true rfl) (oldVals w) retOK_fin rfl fun C hC h0=>?_
 have hc:=check_p w n 3 3 3 1 S N M hm
 rw[h] at hc
 have hs:=hm.s
 unfold isInt at hi hnum hden
 unfold argB at ha
 repeat' (first|(simp (disch:=first|omega|assumption|exact bd (by with_unfolding_all rfl)|exact Or.inl rfl|exact Or.inl trivial|exact okL_map _ (fun _=>rfl) _|(simp only[VVlen]<;>omega)|fail) only[VV0,VV1,VV2,VV3,VV4,VV5,VV6,VV7,VV8,VV9,mkFnV,vargs,slotsL,opdsA,Nat.reduceEqDiff,Nat.reduceLT,Nat.reduceAdd,Nat.reduceBEq,Int.reduceAdd,Int.reduceSub,Int.reduceLT,Int.reduceLE,Int.reduceEq,Int.reduceNeg,↓reduceIte,reduceCtorEq,scL,scD,expand,List.replicate,c12])|apply gC_drawW|((first|apply gI_dec|apply gG_dec|apply gPG_dec|apply gI_var|apply gG_var|apply gPG_var)<;>intro _))
 refine callV_flat (by rw[hC];exact hc.flat rfl rfl) ?_
 repeat' (first|(simp (disch:=first|omega|assumption|exact bd (by with_unfolding_all rfl)|exact Or.inl rfl|exact Or.inl trivial|exact okL_map _ (fun _=>rfl) _|(simp only[VVlen]<;>omega)|fail) only[VV0,VV1,VV2,VV3,VV4,VV5,VV6,VV7,VV8,VV9,mkFnV,vargs,slotsL,opdsA,Nat.reduceEqDiff,Nat.reduceLT,Nat.reduceAdd,Nat.reduceBEq,Int.reduceAdd,Int.reduceSub,Int.reduceLT,Int.reduceLE,Int.reduceEq,Int.reduceNeg,↓reduceIte,reduceCtorEq,scL,scD,expand,List.replicate])|apply gC_drawW|((first|apply gI_dec|apply gG_dec|apply gPG_dec|apply gI_var|apply gG_var|apply gPG_var)<;>intro _))
 all_goals try (exfalso;omega)
 all_goals exact weak_finNil h0 rfl
theorem between_p (S N:List (List UInt8)) (M:List (List Int)) (hm:Mod S N M) (i:Nat) (num den:Int) (h:Val S N M) (ha:argB S.length i num den):
 VSpec (EN w (n+4)) 12 [tableV 3 3 3 1 S N M,iN i,iN num,iN den] (.tup [.sl 3 M.length ((betL M i num den).map iD),iN 0]) ⟨[],0,0⟩:=by
 refine vspec_g rfl rfl (fun _ _=>rfl) (Nat.le_of_ble_eq_true rfl) (oldVals w) retOK_fin rfl fun C hC h0=>?_
 have hc:=check_p w n 3 3 3 1 S N M hm
 rw[(val_iff S N M).2 h] at hc
 have hs:=h.s
 have hM:M.length≤30:=by have:=h.m;have:=h.n;omega
 unfold argB at ha
 repeat' (first|(simp (disch:=first|omega|assumption|exact bd (by with_unfolding_all rfl)|exact Or.inl rfl|exact Or.inl trivial|exact okL_map _ (fun _=>rfl) _|(simp only[VVlen]<;>omega)|fail) only[VV0,VV1,VV2,VV3,VV4,VV5,VV6,VV7,VV8,VV9,mkFnV,vargs,slotsL,opdsA,Nat.reduceEqDiff,Nat.reduceLT,Nat.reduceAdd,Nat.reduceBEq,Int.reduceAdd,Int.reduceSub,Int.reduceLT,Int.reduceLE,Int.reduceEq,Int.reduceNeg,↓reduceIte,reduceCtorEq,scL,scD,expand,List.replicate,c12])|apply gC_drawW|((first|apply gI_dec|apply gG_dec|apply gPG_dec|apply gI_var|apply gG_var|apply gPG_var)<;>intro _))
 refine callV_flat (by rw[hC];exact hc.flat rfl rfl) ?_
 repeat' (first|(simp (disch:=first|omega|assumption|exact bd (by with_unfolding_all rfl)|exact Or.inl rfl|exact Or.inl trivial|exact okL_map _ (fun _=>rfl) _|(simp only[VVlen]<;>omega)|fail) only[VV0,VV1,VV2,VV3,VV4,VV5,VV6,VV7,VV8,VV9,mkFnV,vargs,slotsL,opdsA,Nat.reduceEqDiff,Nat.reduceLT,Nat.reduceAdd,Nat.reduceBEq,Int.reduceAdd,Int.reduceSub,Int.reduceLT,Int.reduceLE,Int.reduceEq,Int.reduceNeg,↓reduceIte,reduceCtorEq,scL,scD,expand,List.replicate])|apply gC_drawW|((first|apply gI_dec|apply gG_dec|apply gPG_dec|apply gI_var|apply gG_var|apply gPG_var)<;>intro _))
 all_goals try (exfalso;omega)
 all_goals obtain ⟨F,hF⟩:∃ F:Nat→Int,F=fun k=>bet M[k]! i num den:=⟨_,rfl⟩
 all_goals rw[← fillF_zero F]
 all_goals refine g_while (fun m fr st=>∃ j:Nat,m=M.length - j∧j≤M.length∧fr= [(1,iN i),(2,iN num),(3,iN den),(11,.ref 1 0 M.length M.length),(51,rowsV 3 1 M),(52,iN M.length),(53,iN j)]∧
  st=⟨[(1,.row 3 1 false false (fillF F M.length j)),(0,tabO 3 3 3 1 S N M)],2,0⟩) M.length ?_ ⟨_,_,.refl _ _,0,by omega,Nat.zero_le _,rfl,rfl⟩ ?_
 all_goals try (rw[hC,callP_rounds];unfold many;omega)
 all_goals
  rintro m fr st ⟨j,rfl,hj,rfl,rfl⟩
  by_cases hlt:j<M.length
  ·have hr:=h.row hlt
   have hL:=fillF_len F M.length j hj
   have hset:=fillF_set F M.length j hlt
   rw[show F j=bet M[j]! i num den by rw[hF]] at hset
   generalize hx:M[j]! =X at*
   obtain ⟨x1,x2⟩:=hr
   have ha1:=x2 i (by omega)
   have hb1:=x2 (i+1) (by omega)
   unfold bet at hset
   generalize hA:X[i]! =A at*
   generalize hBB:X[i+1]! =B at*
   have p1:0≤A*(den - num)∧A*(den - num)≤1000000000:=⟨Int.mul_nonneg (by omega) (by omega),by have:=Int.mul_le_mul (show A≤1000000 by omega) (show den - num≤1000 by omega) (by omega) (by omega);omega⟩
   have p2:0≤B*num∧B*num≤1000000000:=⟨Int.mul_nonneg (by omega) (by omega),by have:=Int.mul_le_mul (show B≤1000000 by omega) (show num≤1000 by omega) (by omega) (by omega);omega⟩
   have hne:¬ 2*den=0:=by omega
   have q1:0≤(2*(A*(den - num)+B*num)+den) / (2*den):=Int.ediv_nonneg (by omega) (by omega)
   have q2:(2*(A*(den - num)+B*num)+den) / (2*den)≤2*(A*(den - num)+B*num)+den:=Int.ediv_le_self _ (by omega)
   have hti:((i:Int)+1).toNat=i+1:=by omega
   repeat' (first|(simp (disch:=first|omega|assumption|exact bd (by with_unfolding_all rfl)|exact Or.inl rfl|exact Or.inl trivial|exact okL_map _ (fun _=>rfl) _|(simp only[VVlen]<;>omega)|fail) only[VV0,VV1,VV2,VV3,VV4,VV5,VV6,VV7,VV8,VV9,mkFnV,vargs,slotsL,opdsA,Nat.reduceEqDiff,Nat.reduceLT,Nat.reduceAdd,Nat.reduceBEq,Int.reduceAdd,Int.reduceSub,Int.reduceLT,Int.reduceLE,Int.reduceEq,Int.reduceNeg,↓reduceIte,reduceCtorEq,scL,scD,expand,List.replicate,c12l0,rowI_dv,hx,iD_dv,hA,hBB,hset,hti])|apply gC_drawW|((first|apply gI_dec|apply gG_dec|apply gPG_dec|apply gI_var|apply gG_var|apply gPG_var)<;>intro _))
   all_goals try (exfalso;omega)
   exact ⟨_,_,_,by omega,.refl _ _,j+1,rfl,hlt,rfl,rfl⟩
  ·have:j=M.length:=by omega
   subst this
   have hfr:=fillF_rows M (fun l=>bet l i num den)
   rw[← hF] at hfr
   have hL:=fillF_len F M.length M.length hj
   repeat' (first|(simp (disch:=first|omega|assumption|exact bd (by with_unfolding_all rfl)|exact Or.inl rfl|exact Or.inl trivial|exact okL_map _ (fun _=>rfl) _|(simp only[VVlen]<;>omega)|fail) only[VV0,VV1,VV2,VV3,VV4,VV5,VV6,VV7,VV8,VV9,mkFnV,vargs,slotsL,opdsA,Nat.reduceEqDiff,Nat.reduceLT,Nat.reduceAdd,Nat.reduceBEq,Int.reduceAdd,Int.reduceSub,Int.reduceLT,Int.reduceLE,Int.reduceEq,Int.reduceNeg,↓reduceIte,reduceCtorEq,scL,scD,expand,List.replicate,c12l0])|apply gC_drawW|((first|apply gI_dec|apply gG_dec|apply gPG_dec|apply gI_var|apply gG_var|apply gPG_var)<;>intro _))
   unfold betL
   rw[← hfr]
   exact weak_fin (s:=4) (snap_refD rfl hL) rfl (.inl (by decide)) h0 rfl
end
end Go.Proofs.Yteibgbbfcjgjiaa
namespace Go.Proofs.Yteibgbbfcjgjiaa
open Go Go.Itp
set_option maxRecDepth 100000
set_option maxHeartbeats 4000000
set_option linter.unusedSimpArgs false
set_option linter.unusedVariables false
def freshF (S:List (List UInt8)) (x:List UInt8):Int:=if 20≤S.length then 4 else if wordS x=false then 8 else if 0≤placeG S x S.length then 14 else 0
abbrev noT:V:= .agg [nilS,nilS,nilS]
section
variable (w:World) (n:Nat)
theorem fresh_p (S N:List (List UInt8)) (M:List (List Int)) (x:List UInt8) (hS:S.length≤1000000) (hx:x.length≤1000):VSpec (EN w (n+2)) 30 [tableV 3 3 3 1 S N M,strV x] (iN (freshF S x)) ⟨[],0,0⟩:=by
 refine vspec_flat rfl rfl (fun _ _=>rfl) (Nat.le_of_ble_eq_true rfl) (oldVals w) rfl fun C hC h0=>?_
 have hw:=word_p w n x (by omega)
 have hi:=gix_p w n 3 S x (by omega)
 unfold freshF
 by_cases h1:20≤S.length
 ·rw[if_pos h1]
  repeat' (first|(simp (disch:=first|omega|assumption|exact bd (by with_unfolding_all rfl)|exact Or.inl rfl|exact Or.inl trivial|exact okL_map _ (fun _=>rfl) _|(simp only[VVlen]<;>omega)|fail) only[VV0,VV1,VV2,VV3,VV4,VV5,VV6,VV7,VV8,VV9,mkFnV,vargs,slotsL,opdsA,Nat.reduceEqDiff,Nat.reduceLT,Nat.reduceAdd,Nat.reduceBEq,Int.reduceAdd,Int.reduceSub,Int.reduceLT,Int.reduceLE,Int.reduceEq,Int.reduceNeg,↓reduceIte,reduceCtorEq,scL,scD,expand,List.replicate,c30])|apply gC_drawW|((first|apply gI_dec|apply gG_dec|apply gPG_dec|apply gI_var|apply gG_var|apply gPG_var)<;>intro _))
  all_goals try (exfalso;omega)
  exact weak_flat rfl h0 rfl
 rw[if_neg h1]
 repeat' (first|(simp (disch:=first|omega|assumption|exact bd (by with_unfolding_all rfl)|exact Or.inl rfl|exact Or.inl trivial|exact okL_map _ (fun _=>rfl) _|(simp only[VVlen]<;>omega)|fail) only[VV0,VV1,VV2,VV3,VV4,VV5,VV6,VV7,VV8,VV9,mkFnV,vargs,slotsL,opdsA,Nat.reduceEqDiff,Nat.reduceLT,Nat.reduceAdd,Nat.reduceBEq,Int.reduceAdd,Int.reduceSub,Int.reduceLT,Int.reduceLE,Int.reduceEq,Int.reduceNeg,↓reduceIte,reduceCtorEq,scL,scD,expand,List.replicate,c30])|apply gC_drawW|((first|apply gI_dec|apply gG_dec|apply gPG_dec|apply gI_var|apply gG_var|apply gPG_var)<;>intro _))
 all_goals try (exfalso;omega)
 refine callV_flat (by rw[hC];exact hw.flat rfl rfl) ?_
 by_cases h2:wordS x=false
 ·rw[if_pos h2,h2]
  repeat' (first|(simp (disch:=first|omega|assumption|exact bd (by with_unfolding_all rfl)|exact Or.inl rfl|exact Or.inl trivial|exact okL_map _ (fun _=>rfl) _|(simp only[VVlen]<;>omega)|fail) only[VV0,VV1,VV2,VV3,VV4,VV5,VV6,VV7,VV8,VV9,mkFnV,vargs,slotsL,opdsA,Nat.reduceEqDiff,Nat.reduceLT,Nat.reduceAdd,Nat.reduceBEq,Int.reduceAdd,Int.reduceSub,Int.reduceLT,Int.reduceLE,Int.reduceEq,Int.reduceNeg,↓reduceIte,reduceCtorEq,scL,scD,expand,List.replicate])|apply gC_drawW|((first|apply gI_dec|apply gG_dec|apply gPG_dec|apply gI_var|apply gG_var|apply gPG_var)<;>intro _))
  exact weak_flat rfl h0 rfl
 rw[if_neg h2]
 rw[Bool.not_eq_false] at h2
 rw[h2]
 repeat' (first|(simp (disch:=first|omega|assumption|exact bd (by with_unfolding_all rfl)|exact Or.inl rfl|exact Or.inl trivial|exact okL_map _ (fun _=>rfl) _|(simp only[VVlen]<;>omega)|fail) only[VV0,VV1,VV2,VV3,VV4,VV5,VV6,VV7,VV8,VV9,mkFnV,vargs,slotsL,opdsA,Nat.reduceEqDiff,Nat.reduceLT,Nat.reduceAdd,Nat.reduceBEq,Int.reduceAdd,Int.reduceSub,Int.reduceLT,Int.reduceLE,Int.reduceEq,Int.reduceNeg,↓reduceIte,reduceCtorEq,scL,scD,expand,List.replicate])|apply gC_drawW|((first|apply gI_dec|apply gG_dec|apply gPG_dec|apply gI_var|apply gG_var|apply gPG_var)<;>intro _))
 refine callV_flat (by rw[hC];exact hi.flat rfl rfl) ?_
 by_cases h3:0≤placeG S x S.length
 ·rw[if_pos h3]
  repeat' (first|(simp (disch:=first|omega|assumption|exact bd (by with_unfolding_all rfl)|exact Or.inl rfl|exact Or.inl trivial|exact okL_map _ (fun _=>rfl) _|(simp only[VVlen]<;>omega)|fail) only[VV0,VV1,VV2,VV3,VV4,VV5,VV6,VV7,VV8,VV9,mkFnV,vargs,slotsL,opdsA,Nat.reduceEqDiff,Nat.reduceLT,Nat.reduceAdd,Nat.reduceBEq,Int.reduceAdd,Int.reduceSub,Int.reduceLT,Int.reduceLE,Int.reduceEq,Int.reduceNeg,↓reduceIte,reduceCtorEq,scL,scD,expand,List.replicate])|apply gC_drawW|((first|apply gI_dec|apply gG_dec|apply gPG_dec|apply gI_var|apply gG_var|apply gPG_var)<;>intro _))
  all_goals try (exfalso;omega)
  exact weak_flat rfl h0 rfl
 ·rw[if_neg h3]
  repeat' (first|(simp (disch:=first|omega|assumption|exact bd (by with_unfolding_all rfl)|exact Or.inl rfl|exact Or.inl trivial|exact okL_map _ (fun _=>rfl) _|(simp only[VVlen]<;>omega)|fail) only[VV0,VV1,VV2,VV3,VV4,VV5,VV6,VV7,VV8,VV9,mkFnV,vargs,slotsL,opdsA,Nat.reduceEqDiff,Nat.reduceLT,Nat.reduceAdd,Nat.reduceBEq,Int.reduceAdd,Int.reduceSub,Int.reduceLT,Int.reduceLE,Int.reduceEq,Int.reduceNeg,↓reduceIte,reduceCtorEq,scL,scD,expand,List.replicate])|apply gC_drawW|((first|apply gI_dec|apply gG_dec|apply gPG_dec|apply gI_var|apply gG_var|apply gPG_var)<;>intro _))
  all_goals try (exfalso;omega)
  exact weak_flat rfl h0 rfl
theorem insert_bad (S N:List (List UInt8)) (M:List (List Int)) (hm:Mod S N M) (i num den:Int) (x:List UInt8) (hi:isInt i) (hnum:isInt num) (hden:isInt den) (h:checkS S N M=0) (ha:¬ argB S.length i num den):
 VSpec (EN w (n+5)) 14 [tableV 3 3 3 1 S N M,iN i,strV x,iN num,iN den] (.tup [noT,iN 2]) ⟨[],0,0⟩:=by
 refine vspec_flat rfl rfl (fun _ _=>rfl) (Nat.le_of_ble_eq_true rfl) (oldVals w) rfl fun C hC h0=>?_
 have hb:=between_bad w n S N M hm i num den hi hnum hden h ha
 repeat' (first|(simp (disch:=first|omega|assumption|exact bd (by with_unfolding_all rfl)|exact Or.inl rfl|exact Or.inl trivial|exact okL_map _ (fun _=>rfl) _|(simp only[VVlen]<;>omega)|fail) only[VV0,VV1,VV2,VV3,VV4,VV5,VV6,VV7,VV8,VV9,mkFnV,vargs,slotsL,opdsA,Nat.reduceEqDiff,Nat.reduceLT,Nat.reduceAdd,Nat.reduceBEq,Int.reduceAdd,Int.reduceSub,Int.reduceLT,Int.reduceLE,Int.reduceEq,Int.reduceNeg,↓reduceIte,reduceCtorEq,scL,scD,expand,List.replicate,c14])|apply gC_drawW|((first|apply gI_dec|apply gG_dec|apply gPG_dec|apply gI_var|apply gG_var|apply gPG_var)<;>intro _))
 refine callV_fin (by rw[hC];exact hb) rfl rfl (fun _=>rfl) ?_
 repeat' (first|(simp (disch:=first|omega|assumption|exact bd (by with_unfolding_all rfl)|exact Or.inl rfl|exact Or.inl trivial|exact okL_map _ (fun _=>rfl) _|(simp only[VVlen]<;>omega)|fail) only[VV0,VV1,VV2,VV3,VV4,VV5,VV6,VV7,VV8,VV9,mkFnV,vargs,slotsL,opdsA,Nat.reduceEqDiff,Nat.reduceLT,Nat.reduceAdd,Nat.reduceBEq,Int.reduceAdd,Int.reduceSub,Int.reduceLT,Int.reduceLE,Int.reduceEq,Int.reduceNeg,↓reduceIte,reduceCtorEq,scL,scD,expand,List.replicate])|apply gC_drawW|((first|apply gI_dec|apply gG_dec|apply gPG_dec|apply gI_var|apply gG_var|apply gPG_var)<;>intro _))
 exact weak_flat rfl h0 rfl
theorem insert_e (S N:List (List UInt8)) (M:List (List Int)) (hm:Mod S N M) (i:Nat) (num den:Int) (x:List UInt8) (hx:x.length≤1000) (h:Val S N M) (ha:argB S.length i num den) (hf:freshF S x ≠ 0):
 VSpec (EN w (n+5)) 14 [tableV 3 3 3 1 S N M,iN i,strV x,iN num,iN den] (.tup [noT,iN (freshF S x)]) ⟨[],0,0⟩:=by
 refine vspec_flat rfl rfl (fun _ _=>rfl) (Nat.le_of_ble_eq_true rfl) (oldVals w) rfl fun C hC h0=>?_
 have hb:=between_p w n S N M hm i num den h ha
 have hfr:=fresh_p w (n+2) S N M x (by have:=h.s;omega) hx
 generalize freshF S x=e at*
 repeat' (first|(simp (disch:=first|omega|assumption|exact bd (by with_unfolding_all rfl)|exact Or.inl rfl|exact Or.inl trivial|exact okL_map _ (fun _=>rfl) _|(simp only[VVlen]<;>omega)|fail) only[VV0,VV1,VV2,VV3,VV4,VV5,VV6,VV7,VV8,VV9,mkFnV,vargs,slotsL,opdsA,Nat.reduceEqDiff,Nat.reduceLT,Nat.reduceAdd,Nat.reduceBEq,Int.reduceAdd,Int.reduceSub,Int.reduceLT,Int.reduceLE,Int.reduceEq,Int.reduceNeg,↓reduceIte,reduceCtorEq,scL,scD,expand,List.replicate,c14])|apply gC_drawW|((first|apply gI_dec|apply gG_dec|apply gPG_dec|apply gI_var|apply gG_var|apply gPG_var)<;>intro _))
 refine callV_fin (by rw[hC];exact hb) rfl rfl (fun _=>rfl) ?_
 repeat' (first|(simp (disch:=first|omega|assumption|exact bd (by with_unfolding_all rfl)|exact Or.inl rfl|exact Or.inl trivial|exact okL_map _ (fun _=>rfl) _|(simp only[VVlen]<;>omega)|fail) only[VV0,VV1,VV2,VV3,VV4,VV5,VV6,VV7,VV8,VV9,mkFnV,vargs,slotsL,opdsA,Nat.reduceEqDiff,Nat.reduceLT,Nat.reduceAdd,Nat.reduceBEq,Int.reduceAdd,Int.reduceSub,Int.reduceLT,Int.reduceLE,Int.reduceEq,Int.reduceNeg,↓reduceIte,reduceCtorEq,scL,scD,expand,List.replicate])|apply gC_drawW|((first|apply gI_dec|apply gG_dec|apply gPG_dec|apply gI_var|apply gG_var|apply gPG_var)<;>intro _))
 refine callV_flat (by rw[hC];exact hfr.flat rfl rfl) ?_
 repeat' (first|(simp (disch:=first|omega|assumption|exact bd (by with_unfolding_all rfl)|exact Or.inl rfl|exact Or.inl trivial|exact okL_map _ (fun _=>rfl) _|(simp only[VVlen]<;>omega)|fail) only[VV0,VV1,VV2,VV3,VV4,VV5,VV6,VV7,VV8,VV9,mkFnV,vargs,slotsL,opdsA,Nat.reduceEqDiff,Nat.reduceLT,Nat.reduceAdd,Nat.reduceBEq,Int.reduceAdd,Int.reduceSub,Int.reduceLT,Int.reduceLE,Int.reduceEq,Int.reduceNeg,↓reduceIte,reduceCtorEq,scL,scD,expand,List.replicate])|apply gC_drawW|((first|apply gI_dec|apply gG_dec|apply gPG_dec|apply gI_var|apply gG_var|apply gPG_var)<;>intro _))
 all_goals try (exfalso;omega)
 exact weak_flat rfl h0 rfl
theorem insert_p (S N:List (List UInt8)) (M:List (List Int)) (hm:Mod S N M) (i:Nat) (num den:Int) (x:List UInt8) (hx:x.length≤1000) (h:Val S N M) (ha:argB S.length i num den) (hf:freshF S x=0):
 VSpec (EN w (n+5)) 14 [tableV 3 3 3 1 S N M,iN i,strV x,iN num,iN den] (.tup [tableV 4 4 4 4 (withL S (i+1) x) N (rowsW M (i+1) (betL M i num den)),iN 0]) ⟨[],0,0⟩:=by
 refine vspec_g rfl rfl (fun _ _=>rfl) (Nat.le_of_ble_eq_true rfl) (oldVals w) (retOK_nil (by simp only[Cl,ClL,and_true,true_and];trivial)) rfl fun C hC h0=>?_
 have hb:=between_p w n S N M hm i num den h ha
 have hs:=h.s
 have hM:M.length≤30:=by have:=h.m;have:=h.n;omega
 have ha':=ha
 unfold argB at ha'
 have hfr:=fresh_p w (n+2) S N M x (by omega) hx
 rw[hf] at hfr
 have hp:=put_p w n S N M (i+1) 3 (betL M i num den) x (by omega) (by simp[betL]) (fun k hk=>by have:=(h.row hk).1;omega) (fun k hk=>by have:=(h.row hk).1;omega) (by omega) (by omega) (by have:=h.n;omega) h.s1 h.n1 (by omega)
 have eb:(betL M i num den).length=M.length:=by simp[betL]
 rw[show intsV 3 (betL M i num den)= .sl 3 M.length ((betL M i num den).map iD) by rw[← eb]] at hp
 repeat' (first|(simp (disch:=first|omega|assumption|exact bd (by with_unfolding_all rfl)|exact Or.inl rfl|exact Or.inl trivial|exact okL_map _ (fun _=>rfl) _|(simp only[VVlen]<;>omega)|fail) only[VV0,VV1,VV2,VV3,VV4,VV5,VV6,VV7,VV8,VV9,mkFnV,vargs,slotsL,opdsA,Nat.reduceEqDiff,Nat.reduceLT,Nat.reduceAdd,Nat.reduceBEq,Int.reduceAdd,Int.reduceSub,Int.reduceLT,Int.reduceLE,Int.reduceEq,Int.reduceNeg,↓reduceIte,reduceCtorEq,scL,scD,expand,List.replicate,c14])|apply gC_drawW|((first|apply gI_dec|apply gG_dec|apply gPG_dec|apply gI_var|apply gG_var|apply gPG_var)<;>intro _))
 refine callV_fin (by rw[hC];exact hb) rfl rfl (fun _=>rfl) ?_
 repeat' (first|(simp (disch:=first|omega|assumption|exact bd (by with_unfolding_all rfl)|exact Or.inl rfl|exact Or.inl trivial|exact okL_map _ (fun _=>rfl) _|(simp only[VVlen]<;>omega)|fail) only[VV0,VV1,VV2,VV3,VV4,VV5,VV6,VV7,VV8,VV9,mkFnV,vargs,slotsL,opdsA,Nat.reduceEqDiff,Nat.reduceLT,Nat.reduceAdd,Nat.reduceBEq,Int.reduceAdd,Int.reduceSub,Int.reduceLT,Int.reduceLE,Int.reduceEq,Int.reduceNeg,↓reduceIte,reduceCtorEq,scL,scD,expand,List.replicate])|apply gC_drawW|((first|apply gI_dec|apply gG_dec|apply gPG_dec|apply gI_var|apply gG_var|apply gPG_var)<;>intro _))
 refine callV_flat (by rw[hC];exact hfr.flat rfl rfl) ?_
 repeat' (first|(simp (disch:=first|omega|assumption|exact bd (by with_unfolding_all rfl)|exact Or.inl rfl|exact Or.inl trivial|exact okL_map _ (fun _=>rfl) _|(simp only[VVlen]<;>omega)|fail) only[VV0,VV1,VV2,VV3,VV4,VV5,VV6,VV7,VV8,VV9,mkFnV,vargs,slotsL,opdsA,Nat.reduceEqDiff,Nat.reduceLT,Nat.reduceAdd,Nat.reduceBEq,Int.reduceAdd,Int.reduceSub,Int.reduceLT,Int.reduceLE,Int.reduceEq,Int.reduceNeg,↓reduceIte,reduceCtorEq,scL,scD,expand,List.replicate])|apply gC_drawW|((first|apply gI_dec|apply gG_dec|apply gPG_dec|apply gI_var|apply gG_var|apply gPG_var)<;>intro _))
 refine callV_fin (by rw[hC];exact hp) rfl rfl (fun _=>rfl) ?_
 repeat' (first|(simp (disch:=first|omega|assumption|exact bd (by with_unfolding_all rfl)|exact Or.inl rfl|exact Or.inl trivial|exact okL_map _ (fun _=>rfl) _|(simp only[VVlen]<;>omega)|fail) only[VV0,VV1,VV2,VV3,VV4,VV5,VV6,VV7,VV8,VV9,mkFnV,vargs,slotsL,opdsA,Nat.reduceEqDiff,Nat.reduceLT,Nat.reduceAdd,Nat.reduceBEq,Int.reduceAdd,Int.reduceSub,Int.reduceLT,Int.reduceLE,Int.reduceEq,Int.reduceNeg,↓reduceIte,reduceCtorEq,scL,scD,expand,List.replicate])|apply gC_drawW|((first|apply gI_dec|apply gG_dec|apply gPG_dec|apply gI_var|apply gG_var|apply gPG_var)<;>intro _))
 exact weak_to [] 0 h0 rfl rfl rfl rfl
end
def nxt (n:Nat) (l:List Int):Int:=2*l[n - 1]! - l[n - 2]!
def nxtOK (n:Nat) (M:List (List Int)):Prop:=∀ k,k<M.length→nxt n M[k]! ≤1000000
theorem snapL_last {H:VHp} {s1 s2 s3 n1 n2 n3:Nat} {l1 l2 l3:List D} {x y:Value} {d d':V} (h:snapV H d=some d'):snapL H [.agg [.sl s1 n1 l1,.sl s2 n2 l2,.sl s3 n3 l3],.sc x,.sc y,d]=some [.agg [.sl s1 n1 l1,.sl s2 n2 l2,.sl s3 n3 l3],.sc x,.sc y,d']:=by
 simp only[snapL,snapV,h,Option.bind_some,Option.map_some]
section
variable (w:World) (n:Nat)
theorem next_short (S N:List (List UInt8)) (M:List (List Int)) (hm:Mod S N M) (x:List UInt8) (h:Val S N M) (hs:S.length<2):
 VSpec (EN w (n+5)) 16 [tableV 3 3 3 1 S N M,strV x] (.tup [noT,iN 22]) ⟨[],0,0⟩:=by
 refine vspec_flat rfl rfl (fun _ _=>rfl) (Nat.le_of_ble_eq_true rfl) (oldVals w) rfl fun C hC h0=>?_
 have hc:=check_p w (n+1) 3 3 3 1 S N M hm
 rw[(val_iff S N M).2 h] at hc
 repeat' (first|(simp (disch:=first|omega|assumption|exact bd (by with_unfolding_all rfl)|exact Or.inl rfl|exact Or.inl trivial|exact okL_map _ (fun _=>rfl) _|(simp only[VVlen]<;>omega)|fail) only[VV0,VV1,VV2,VV3,VV4,VV5,VV6,VV7,VV8,VV9,mkFnV,vargs,slotsL,opdsA,Nat.reduceEqDiff,Nat.reduceLT,Nat.reduceAdd,Nat.reduceBEq,Int.reduceAdd,Int.reduceSub,Int.reduceLT,Int.reduceLE,Int.reduceEq,Int.reduceNeg,↓reduceIte,reduceCtorEq,scL,scD,expand,List.replicate,c16])|apply gC_drawW|((first|apply gI_dec|apply gG_dec|apply gPG_dec|apply gI_var|apply gG_var|apply gPG_var)<;>intro _))
 refine callV_flat (by rw[hC];exact hc.flat rfl rfl) ?_
 repeat' (first|(simp (disch:=first|omega|assumption|exact bd (by with_unfolding_all rfl)|exact Or.inl rfl|exact Or.inl trivial|exact okL_map _ (fun _=>rfl) _|(simp only[VVlen]<;>omega)|fail) only[VV0,VV1,VV2,VV3,VV4,VV5,VV6,VV7,VV8,VV9,mkFnV,vargs,slotsL,opdsA,Nat.reduceEqDiff,Nat.reduceLT,Nat.reduceAdd,Nat.reduceBEq,Int.reduceAdd,Int.reduceSub,Int.reduceLT,Int.reduceLE,Int.reduceEq,Int.reduceNeg,↓reduceIte,reduceCtorEq,scL,scD,expand,List.replicate])|apply gC_drawW|((first|apply gI_dec|apply gG_dec|apply gPG_dec|apply gI_var|apply gG_var|apply gPG_var)<;>intro _))
 all_goals try (exfalso;omega)
 exact weak_flat rfl h0 rfl
theorem next_e (S N:List (List UInt8)) (M:List (List Int)) (hm:Mod S N M) (x:List UInt8) (hx:x.length≤1000) (h:Val S N M) (hs:¬ S.length<2) (hf:freshF S x ≠ 0):
 VSpec (EN w (n+5)) 16 [tableV 3 3 3 1 S N M,strV x] (.tup [noT,iN (freshF S x)]) ⟨[],0,0⟩:=by
 refine vspec_flat rfl rfl (fun _ _=>rfl) (Nat.le_of_ble_eq_true rfl) (oldVals w) rfl fun C hC h0=>?_
 have hc:=check_p w (n+1) 3 3 3 1 S N M hm
 rw[(val_iff S N M).2 h] at hc
 have hS:=h.s
 have hfr:=fresh_p w (n+2) S N M x (by omega) hx
 generalize freshF S x=e at*
 repeat' (first|(simp (disch:=first|omega|assumption|exact bd (by with_unfolding_all rfl)|exact Or.inl rfl|exact Or.inl trivial|exact okL_map _ (fun _=>rfl) _|(simp only[VVlen]<;>omega)|fail) only[VV0,VV1,VV2,VV3,VV4,VV5,VV6,VV7,VV8,VV9,mkFnV,vargs,slotsL,opdsA,Nat.reduceEqDiff,Nat.reduceLT,Nat.reduceAdd,Nat.reduceBEq,Int.reduceAdd,Int.reduceSub,Int.reduceLT,Int.reduceLE,Int.reduceEq,Int.reduceNeg,↓reduceIte,reduceCtorEq,scL,scD,expand,List.replicate,c16])|apply gC_drawW|((first|apply gI_dec|apply gG_dec|apply gPG_dec|apply gI_var|apply gG_var|apply gPG_var)<;>intro _))
 refine callV_flat (by rw[hC];exact hc.flat rfl rfl) ?_
 repeat' (first|(simp (disch:=first|omega|assumption|exact bd (by with_unfolding_all rfl)|exact Or.inl rfl|exact Or.inl trivial|exact okL_map _ (fun _=>rfl) _|(simp only[VVlen]<;>omega)|fail) only[VV0,VV1,VV2,VV3,VV4,VV5,VV6,VV7,VV8,VV9,mkFnV,vargs,slotsL,opdsA,Nat.reduceEqDiff,Nat.reduceLT,Nat.reduceAdd,Nat.reduceBEq,Int.reduceAdd,Int.reduceSub,Int.reduceLT,Int.reduceLE,Int.reduceEq,Int.reduceNeg,↓reduceIte,reduceCtorEq,scL,scD,expand,List.replicate])|apply gC_drawW|((first|apply gI_dec|apply gG_dec|apply gPG_dec|apply gI_var|apply gG_var|apply gPG_var)<;>intro _))
 all_goals try (exfalso;omega)
 refine callV_flat (by rw[hC];exact hfr.flat rfl rfl) ?_
 repeat' (first|(simp (disch:=first|omega|assumption|exact bd (by with_unfolding_all rfl)|exact Or.inl rfl|exact Or.inl trivial|exact okL_map _ (fun _=>rfl) _|(simp only[VVlen]<;>omega)|fail) only[VV0,VV1,VV2,VV3,VV4,VV5,VV6,VV7,VV8,VV9,mkFnV,vargs,slotsL,opdsA,Nat.reduceEqDiff,Nat.reduceLT,Nat.reduceAdd,Nat.reduceBEq,Int.reduceAdd,Int.reduceSub,Int.reduceLT,Int.reduceLE,Int.reduceEq,Int.reduceNeg,↓reduceIte,reduceCtorEq,scL,scD,expand,List.replicate])|apply gC_drawW|((first|apply gI_dec|apply gG_dec|apply gPG_dec|apply gI_var|apply gG_var|apply gPG_var)<;>intro _))
 all_goals try (exfalso;omega)
 exact weak_flat rfl h0 rfl
theorem next_big (S N:List (List UInt8)) (M:List (List Int)) (hm:Mod S N M) (x:List UInt8) (hx:x.length≤1000) (h:Val S N M) (hs:¬ S.length<2) (hf:freshF S x=0) (hno:¬ nxtOK S.length M):
 VSpec (EN w (n+5)) 16 [tableV 3 3 3 1 S N M,strV x] (.tup [noT,iN 16]) ⟨[],0,0⟩:=by
 refine vspec_flat rfl rfl (fun _ _=>rfl) (Nat.le_of_ble_eq_true rfl) (oldVals w) rfl fun C hC h0=>?_
 have hc:=check_p w (n+1) 3 3 3 1 S N M hm
 rw[(val_iff S N M).2 h] at hc
 have hS:=h.s
 have hM:M.length≤30:=by have:=h.m;have:=h.n;omega
 have hfr:=fresh_p w (n+2) S N M x (by omega) hx
 rw[hf] at hfr
 repeat' (first|(simp (disch:=first|omega|assumption|exact bd (by with_unfolding_all rfl)|exact Or.inl rfl|exact Or.inl trivial|exact okL_map _ (fun _=>rfl) _|(simp only[VVlen]<;>omega)|fail) only[VV0,VV1,VV2,VV3,VV4,VV5,VV6,VV7,VV8,VV9,mkFnV,vargs,slotsL,opdsA,Nat.reduceEqDiff,Nat.reduceLT,Nat.reduceAdd,Nat.reduceBEq,Int.reduceAdd,Int.reduceSub,Int.reduceLT,Int.reduceLE,Int.reduceEq,Int.reduceNeg,↓reduceIte,reduceCtorEq,scL,scD,expand,List.replicate,c16])|apply gC_drawW|((first|apply gI_dec|apply gG_dec|apply gPG_dec|apply gI_var|apply gG_var|apply gPG_var)<;>intro _))
 refine callV_flat (by rw[hC];exact hc.flat rfl rfl) ?_
 repeat' (first|(simp (disch:=first|omega|assumption|exact bd (by with_unfolding_all rfl)|exact Or.inl rfl|exact Or.inl trivial|exact okL_map _ (fun _=>rfl) _|(simp only[VVlen]<;>omega)|fail) only[VV0,VV1,VV2,VV3,VV4,VV5,VV6,VV7,VV8,VV9,mkFnV,vargs,slotsL,opdsA,Nat.reduceEqDiff,Nat.reduceLT,Nat.reduceAdd,Nat.reduceBEq,Int.reduceAdd,Int.reduceSub,Int.reduceLT,Int.reduceLE,Int.reduceEq,Int.reduceNeg,↓reduceIte,reduceCtorEq,scL,scD,expand,List.replicate])|apply gC_drawW|((first|apply gI_dec|apply gG_dec|apply gPG_dec|apply gI_var|apply gG_var|apply gPG_var)<;>intro _))
 all_goals try (exfalso;omega)
 refine callV_flat (by rw[hC];exact hfr.flat rfl rfl) ?_
 repeat' (first|(simp (disch:=first|omega|assumption|exact bd (by with_unfolding_all rfl)|exact Or.inl rfl|exact Or.inl trivial|exact okL_map _ (fun _=>rfl) _|(simp only[VVlen]<;>omega)|fail) only[VV0,VV1,VV2,VV3,VV4,VV5,VV6,VV7,VV8,VV9,mkFnV,vargs,slotsL,opdsA,Nat.reduceEqDiff,Nat.reduceLT,Nat.reduceAdd,Nat.reduceBEq,Int.reduceAdd,Int.reduceSub,Int.reduceLT,Int.reduceLE,Int.reduceEq,Int.reduceNeg,↓reduceIte,reduceCtorEq,scL,scD,expand,List.replicate])|apply gC_drawW|((first|apply gI_dec|apply gG_dec|apply gPG_dec|apply gI_var|apply gG_var|apply gPG_var)<;>intro _))
 obtain ⟨F,hF⟩:∃ F:Nat→Int,F=fun k=>nxt S.length M[k]! :=⟨_,rfl⟩
 rw[← fillF_zero F]
 refine g_while (fun m fr st=>∃ j:Nat,m=M.length - j∧j≤M.length∧(∀ k,k<j→nxt S.length M[k]! ≤1000000)∧fr= [(1,strV x),(2,.ptr 0 0),(4,.ptr 1 0),(7,iN S.length),(9,.ref 2 0 M.length M.length),(36,rowsV 3 1 M),(37,iN M.length),(38,iN j)]∧
  st=⟨[(2,.row 3 1 false false (fillF F M.length j)),(1,.box 25 1 [nilS,nilS,nilS]),(0,tabO 3 3 3 1 S N M)],3,0⟩) M.length ?_ ⟨_,_,.refl _ _,0,by omega,Nat.zero_le _,by omega,rfl,rfl⟩ ?_
 ·rw[hC,callP_rounds];unfold many;omega
 rintro m fr st ⟨j,rfl,hj,hall,rfl,rfl⟩
 by_cases hlt:j<M.length
 ·have hr:=h.row hlt
  have hL:=fillF_len F M.length j hj
  have hset:=fillF_set F M.length j hlt
  have hL2:=fillF_len F M.length (j+1) hlt
  have hget:dload (fillF F M.length (j+1)) j none=some (iN (F j)):=by
   have:(fillF F M.length (j+1))[j]? =some (iD (F j)):=by rw[← hset,List.getElem?_set_self (by omega)];rfl
   simp only[dload,lget_eq,this];rfl
  rw[show F j=nxt S.length M[j]! by rw[hF]] at hset hget
  have hk2:=fun hh=>lt_succ_cases hall (k:=j) (P:=fun k=>nxt S.length M[k]! ≤1000000) hh
  have hbig:=fun (hh:¬ nxt S.length M[j]! ≤1000000)=>(fun (ok:nxtOK S.length M)=>hh (ok j hlt):¬ nxtOK S.length M)
  generalize hX:M[j]! =X at*
  obtain ⟨x1,x2⟩:=hr
  have ha1:=x2 (S.length - 1) (by omega)
  have hb1:=x2 (S.length - 2) (by omega)
  have e1:((S.length:Int) - 1).toNat=S.length - 1:=by omega
  have e2:((S.length:Int) - 2).toNat=S.length - 2:=by omega
  unfold nxt at hset hget hk2 hbig
  generalize hA:X[S.length - 1]! =A at*
  generalize hBB:X[S.length - 2]! =B at*
  by_cases hle:2*A - B≤1000000
  ·repeat' (first|(simp (disch:=first|omega|assumption|exact bd (by with_unfolding_all rfl)|exact Or.inl rfl|exact Or.inl trivial|exact okL_map _ (fun _=>rfl) _|(simp only[VVlen]<;>omega)|fail) only[VV0,VV1,VV2,VV3,VV4,VV5,VV6,VV7,VV8,VV9,mkFnV,vargs,slotsL,opdsA,Nat.reduceEqDiff,Nat.reduceLT,Nat.reduceAdd,Nat.reduceBEq,Int.reduceAdd,Int.reduceSub,Int.reduceLT,Int.reduceLE,Int.reduceEq,Int.reduceNeg,↓reduceIte,reduceCtorEq,scL,scD,expand,List.replicate,c16l0,rowI_dv,hX,iD_dv,hA,hBB,hset,e1,e2,hget])|apply gC_drawW|((first|apply gI_dec|apply gG_dec|apply gPG_dec|apply gI_var|apply gG_var|apply gPG_var)<;>intro _))
   all_goals try (exfalso;omega)
   exact ⟨_,_,_,by omega,.refl _ _,j+1,rfl,hlt,hk2 hle,rfl,rfl⟩
  ·repeat' (first|(simp (disch:=first|omega|assumption|exact bd (by with_unfolding_all rfl)|exact Or.inl rfl|exact Or.inl trivial|exact okL_map _ (fun _=>rfl) _|(simp only[VVlen]<;>omega)|fail) only[VV0,VV1,VV2,VV3,VV4,VV5,VV6,VV7,VV8,VV9,mkFnV,vargs,slotsL,opdsA,Nat.reduceEqDiff,Nat.reduceLT,Nat.reduceAdd,Nat.reduceBEq,Int.reduceAdd,Int.reduceSub,Int.reduceLT,Int.reduceLE,Int.reduceEq,Int.reduceNeg,↓reduceIte,reduceCtorEq,scL,scD,expand,List.replicate,c16l0,rowI_dv,hX,iD_dv,hA,hBB,hset,e1,e2,hget])|apply gC_drawW|((first|apply gI_dec|apply gG_dec|apply gPG_dec|apply gI_var|apply gG_var|apply gPG_var)<;>intro _))
   all_goals try (exfalso;omega)
   exact weak_flat rfl h0 rfl
 ·have:j=M.length:=by omega
  subst this
  have hfr:=fillF_rows M (nxt S.length)
  rw[← hF] at hfr
  have hL:=fillF_len F M.length M.length hj
  exact absurd hall hno
theorem next_p (S N:List (List UInt8)) (M:List (List Int)) (hm:Mod S N M) (x:List UInt8) (hx:x.length≤1000) (h:Val S N M) (hs:¬ S.length<2) (hf:freshF S x=0) (hok:nxtOK S.length M):
 VSpec (EN w (n+5)) 16 [tableV 3 3 3 1 S N M,strV x] (.tup [tableV 4 4 4 4 (withL S S.length x) N (rowsW M S.length (M.map (nxt S.length))),iN 0]) ⟨[],0,0⟩:=by
 refine vspec_g rfl rfl (fun _ _=>rfl) (Nat.le_of_ble_eq_true rfl) (oldVals w) (retOK_nil (by simp only[Cl,ClL,and_true,true_and];trivial)) rfl fun C hC h0=>?_
 have hc:=check_p w (n+1) 3 3 3 1 S N M hm
 rw[(val_iff S N M).2 h] at hc
 have hS:=h.s
 have hM:M.length≤30:=by have:=h.m;have:=h.n;omega
 have hfr:=fresh_p w (n+2) S N M x (by omega) hx
 rw[hf] at hfr
 repeat' (first|(simp (disch:=first|omega|assumption|exact bd (by with_unfolding_all rfl)|exact Or.inl rfl|exact Or.inl trivial|exact okL_map _ (fun _=>rfl) _|(simp only[VVlen]<;>omega)|fail) only[VV0,VV1,VV2,VV3,VV4,VV5,VV6,VV7,VV8,VV9,mkFnV,vargs,slotsL,opdsA,Nat.reduceEqDiff,Nat.reduceLT,Nat.reduceAdd,Nat.reduceBEq,Int.reduceAdd,Int.reduceSub,Int.reduceLT,Int.reduceLE,Int.reduceEq,Int.reduceNeg,↓reduceIte,reduceCtorEq,scL,scD,expand,List.replicate,c16])|apply gC_drawW|((first|apply gI_dec|apply gG_dec|apply gPG_dec|apply gI_var|apply gG_var|apply gPG_var)<;>intro _))
 refine callV_flat (by rw[hC];exact hc.flat rfl rfl) ?_
 repeat' (first|(simp (disch:=first|omega|assumption|exact bd (by with_unfolding_all rfl)|exact Or.inl rfl|exact Or.inl trivial|exact okL_map _ (fun _=>rfl) _|(simp only[VVlen]<;>omega)|fail) only[VV0,VV1,VV2,VV3,VV4,VV5,VV6,VV7,VV8,VV9,mkFnV,vargs,slotsL,opdsA,Nat.reduceEqDiff,Nat.reduceLT,Nat.reduceAdd,Nat.reduceBEq,Int.reduceAdd,Int.reduceSub,Int.reduceLT,Int.reduceLE,Int.reduceEq,Int.reduceNeg,↓reduceIte,reduceCtorEq,scL,scD,expand,List.replicate])|apply gC_drawW|((first|apply gI_dec|apply gG_dec|apply gPG_dec|apply gI_var|apply gG_var|apply gPG_var)<;>intro _))
 all_goals try (exfalso;omega)
 refine callV_flat (by rw[hC];exact hfr.flat rfl rfl) ?_
 repeat' (first|(simp (disch:=first|omega|assumption|exact bd (by with_unfolding_all rfl)|exact Or.inl rfl|exact Or.inl trivial|exact okL_map _ (fun _=>rfl) _|(simp only[VVlen]<;>omega)|fail) only[VV0,VV1,VV2,VV3,VV4,VV5,VV6,VV7,VV8,VV9,mkFnV,vargs,slotsL,opdsA,Nat.reduceEqDiff,Nat.reduceLT,Nat.reduceAdd,Nat.reduceBEq,Int.reduceAdd,Int.reduceSub,Int.reduceLT,Int.reduceLE,Int.reduceEq,Int.reduceNeg,↓reduceIte,reduceCtorEq,scL,scD,expand,List.replicate])|apply gC_drawW|((first|apply gI_dec|apply gG_dec|apply gPG_dec|apply gI_var|apply gG_var|apply gPG_var)<;>intro _))
 obtain ⟨F,hF⟩:∃ F:Nat→Int,F=fun k=>nxt S.length M[k]! :=⟨_,rfl⟩
 rw[← fillF_zero F]
 refine g_while (fun m fr st=>∃ j:Nat,m=M.length - j∧j≤M.length∧(∀ k,k<j→nxt S.length M[k]! ≤1000000)∧fr= [(1,strV x),(2,.ptr 0 0),(4,.ptr 1 0),(7,iN S.length),(9,.ref 2 0 M.length M.length),(36,rowsV 3 1 M),(37,iN M.length),(38,iN j)]∧
  st=⟨[(2,.row 3 1 false false (fillF F M.length j)),(1,.box 25 1 [nilS,nilS,nilS]),(0,tabO 3 3 3 1 S N M)],3,0⟩) M.length ?_ ⟨_,_,.refl _ _,0,by omega,Nat.zero_le _,by omega,rfl,rfl⟩ ?_
 ·rw[hC,callP_rounds];unfold many;omega
 rintro m fr st ⟨j,rfl,hj,hall,rfl,rfl⟩
 by_cases hlt:j<M.length
 ·have hr:=h.row hlt
  have hL:=fillF_len F M.length j hj
  have hset:=fillF_set F M.length j hlt
  have hL2:=fillF_len F M.length (j+1) hlt
  have hget:dload (fillF F M.length (j+1)) j none=some (iN (F j)):=by
   have:(fillF F M.length (j+1))[j]? =some (iD (F j)):=by rw[← hset,List.getElem?_set_self (by omega)];rfl
   simp only[dload,lget_eq,this];rfl
  rw[show F j=nxt S.length M[j]! by rw[hF]] at hset hget
  have hk2:=fun hh=>lt_succ_cases hall (k:=j) (P:=fun k=>nxt S.length M[k]! ≤1000000) hh
  have hbig:=fun (hh:¬ nxt S.length M[j]! ≤1000000)=>(fun (ok:nxtOK S.length M)=>hh (ok j hlt):¬ nxtOK S.length M)
  generalize hX:M[j]! =X at*
  obtain ⟨x1,x2⟩:=hr
  have ha1:=x2 (S.length - 1) (by omega)
  have hb1:=x2 (S.length - 2) (by omega)
  have e1:((S.length:Int) - 1).toNat=S.length - 1:=by omega
  have e2:((S.length:Int) - 2).toNat=S.length - 2:=by omega
  unfold nxt at hset hget hk2 hbig
  generalize hA:X[S.length - 1]! =A at*
  generalize hBB:X[S.length - 2]! =B at*
  by_cases hle:2*A - B≤1000000
  ·repeat' (first|(simp (disch:=first|omega|assumption|exact bd (by with_unfolding_all rfl)|exact Or.inl rfl|exact Or.inl trivial|exact okL_map _ (fun _=>rfl) _|(simp only[VVlen]<;>omega)|fail) only[VV0,VV1,VV2,VV3,VV4,VV5,VV6,VV7,VV8,VV9,mkFnV,vargs,slotsL,opdsA,Nat.reduceEqDiff,Nat.reduceLT,Nat.reduceAdd,Nat.reduceBEq,Int.reduceAdd,Int.reduceSub,Int.reduceLT,Int.reduceLE,Int.reduceEq,Int.reduceNeg,↓reduceIte,reduceCtorEq,scL,scD,expand,List.replicate,c16l0,rowI_dv,hX,iD_dv,hA,hBB,hset,e1,e2,hget])|apply gC_drawW|((first|apply gI_dec|apply gG_dec|apply gPG_dec|apply gI_var|apply gG_var|apply gPG_var)<;>intro _))
   all_goals try (exfalso;omega)
   exact ⟨_,_,_,by omega,.refl _ _,j+1,rfl,hlt,hk2 hle,rfl,rfl⟩
  ·repeat' (first|(simp (disch:=first|omega|assumption|exact bd (by with_unfolding_all rfl)|exact Or.inl rfl|exact Or.inl trivial|exact okL_map _ (fun _=>rfl) _|(simp only[VVlen]<;>omega)|fail) only[VV0,VV1,VV2,VV3,VV4,VV5,VV6,VV7,VV8,VV9,mkFnV,vargs,slotsL,opdsA,Nat.reduceEqDiff,Nat.reduceLT,Nat.reduceAdd,Nat.reduceBEq,Int.reduceAdd,Int.reduceSub,Int.reduceLT,Int.reduceLE,Int.reduceEq,Int.reduceNeg,↓reduceIte,reduceCtorEq,scL,scD,expand,List.replicate,c16l0,rowI_dv,hX,iD_dv,hA,hBB,hset,e1,e2,hget])|apply gC_drawW|((first|apply gI_dec|apply gG_dec|apply gPG_dec|apply gI_var|apply gG_var|apply gPG_var)<;>intro _))
   exact absurd hok (hbig hle)
 ·have:j=M.length:=by omega
  subst this
  have hfr:=fillF_rows M (nxt S.length)
  rw[← hF] at hfr
  have hL:=fillF_len F M.length M.length hj
  have hp:=put_p w n S N M S.length 4 (M.map (nxt S.length)) x (by omega) (by simp) (fun k hk=>by have:=(h.row hk).1;omega) (fun k hk=>by have:=(h.row hk).1;omega) (by omega) (by omega) (by have:=h.n;omega) h.s1 h.n1 (Nat.le_refl _)
  rw[show intsV 4 (M.map (nxt S.length))= .sl 4 M.length ((M.map (nxt S.length)).map iD) by show V.sl 4 _ _=_;rw[List.length_map]] at hp
  repeat' (first|(simp (disch:=first|omega|assumption|exact bd (by with_unfolding_all rfl)|exact Or.inl rfl|exact Or.inl trivial|exact okL_map _ (fun _=>rfl) _|(simp only[VVlen]<;>omega)|fail) only[VV0,VV1,VV2,VV3,VV4,VV5,VV6,VV7,VV8,VV9,mkFnV,vargs,slotsL,opdsA,Nat.reduceEqDiff,Nat.reduceLT,Nat.reduceAdd,Nat.reduceBEq,Int.reduceAdd,Int.reduceSub,Int.reduceLT,Int.reduceLE,Int.reduceEq,Int.reduceNeg,↓reduceIte,reduceCtorEq,scL,scD,expand,List.replicate,c16l0])|apply gC_drawW|((first|apply gI_dec|apply gG_dec|apply gPG_dec|apply gI_var|apply gG_var|apply gPG_var)<;>intro _))
  refine callV_of (xs':= [tableV 3 3 3 1 S N M,iN S.length,strV x,.sl 4 M.length ((M.map (nxt S.length)).map iD)]) (by rw[hC];exact hp) ?_ rfl rfl ?_
  ·rw[← hfr]
   exact snapL_last (snap_refD rfl hL)
  repeat' (first|(simp (disch:=first|omega|assumption|exact bd (by with_unfolding_all rfl)|exact Or.inl rfl|exact Or.inl trivial|exact okL_map _ (fun _=>rfl) _|(simp only[VVlen]<;>omega)|fail) only[VV0,VV1,VV2,VV3,VV4,VV5,VV6,VV7,VV8,VV9,mkFnV,vargs,slotsL,opdsA,Nat.reduceEqDiff,Nat.reduceLT,Nat.reduceAdd,Nat.reduceBEq,Int.reduceAdd,Int.reduceSub,Int.reduceLT,Int.reduceLE,Int.reduceEq,Int.reduceNeg,↓reduceIte,reduceCtorEq,scL,scD,expand,List.replicate,vsh,vshL,shH,shO,fzSL,fzS,frozA_none])|apply gC_drawW|((first|apply gI_dec|apply gG_dec|apply gPG_dec|apply gI_var|apply gG_var|apply gPG_var)<;>intro _))
  exact weak_to [] 0 h0 rfl rfl rfl rfl
end
def snp (step v:Int):Int:=step*((2*v+step) / (2*step))
abbrev boV (b:Bool):V:= .sc (.bool b)
def fitR (step:Int) (l:List Int):Nat→Bool
 |0=>true
 |j+1=>fitR step l j && decide (snp step l[j]! ≤1000000)
def fitM (step:Int) (M:List (List Int)):Nat→Bool
 |0=>true
 |j+1=>fitM step M j && fitR step M[j]! M[j]!.length
def snpH (S N:List (List UInt8)) (M:List (List Int)) (step:Int) (f:Bool):VHp:= [(3,.box 4 1 [boV f]),(2,.box 25 1 [nilS,nilS,nilS]),(1,.box 3 1 [iN step]),(0,tabO 3 3 3 1 S N M)]
theorem snp_bd {step v:Int} (h1:1≤step) (h2:step≤10000) (v1:0≤v) (v2:v≤1000000):0≤(2*v+step) / (2*step)∧(2*v+step) / (2*step)≤2010000∧0≤snp step v∧snp step v≤2020000:=by
 have q1:0≤(2*v+step) / (2*step):=Int.ediv_nonneg (by omega) (by omega)
 have q2:(2*v+step) / (2*step)≤2*v+step:=Int.ediv_le_self _ (by omega)
 have q3:=Int.mul_ediv_self_le (x:=2*v+step) (k:=2*step) (by omega)
 have q4:2*step*((2*v+step) / (2*step))=2*(step*((2*v+step) / (2*step))):=by rw[Int.mul_assoc]
 refine ⟨q1,by omega,Int.mul_nonneg (by omega) q1,?_⟩
 unfold snp
 omega
section
variable (w:World) (n:Nat)
theorem snap1_w {C:Ctx} (hC:C.E=EN w (n+2)) (S N:List (List UInt8)) (M:List (List Int)) (step:Int) (f:Bool) (X:List Int) (R:List D) (h1:1≤step) (h2:step≤10000) (hx:∀ j,j<X.length→0≤X[j]! ∧X[j]! ≤1000000) (hl:X.length≤1000000):
 CallV C 35 [.sl 1 X.length (X.map iD),.ptr 1 0,.ptr 3 0] ⟨(10,.row 39 1 false false R)::(9,.gro 9 1 false (N.map sD))::(7,.gro 9 1 false (S.map sD))::(5,.box 25 1 [nilS,nilS,nilS])::(4,tabO 3 3 3 1 S N M)::snpH S N M step f,12,0⟩
  fun v' st'=>v'= .sl 4 X.length ((X.map (snp step)).map iD)∧st'=⟨(10,.row 39 1 false false R)::(9,.gro 9 1 false (N.map sD))::(7,.gro 9 1 false (S.map sD))::(5,.box 25 1 [nilS,nilS,nilS])::(4,tabO 3 3 3 1 S N M)::snpH S N M step (f && fitR step X X.length),12,0⟩:=by
 refine callV_w (prims:=PR w) hC rfl rfl (fun _ _=>rfl) (Nat.le_of_ble_eq_true rfl) ⟨rfl,rfl⟩ fun C' hC' hn=>?_
 replace hn:C'.w0.nx=12:=hn
 obtain ⟨F,hF⟩:∃ F:Nat→Int,F=fun k=>snp step X[k]! :=⟨_,rfl⟩
 obtain ⟨G,hG⟩:∃ G:Nat→Bool,G=fun j=>f && fitR step X j:=⟨_,rfl⟩
 have hG0:G 0=f:=by rw[hG];exact Bool.and_true f
 repeat' (first|(simp (disch:=first|omega|assumption|exact bd (by with_unfolding_all rfl)|exact Or.inl rfl|exact Or.inl trivial|exact okL_map _ (fun _=>rfl) _|(simp only[VVlen]<;>omega)|fail) only[VV0,VV1,VV2,VV3,VV4,VV5,VV6,VV7,VV8,VV9,mkFnV,vargs,slotsL,opdsA,Nat.reduceEqDiff,Nat.reduceLT,Nat.reduceAdd,Nat.reduceBEq,Int.reduceAdd,Int.reduceSub,Int.reduceLT,Int.reduceLE,Int.reduceEq,Int.reduceNeg,↓reduceIte,reduceCtorEq,scL,scD,expand,List.replicate,c35,snpH])|apply gC_drawW|((first|apply gI_dec|apply gG_dec|apply gPG_dec|apply gI_var|apply gG_var|apply gPG_var)<;>intro _))
 rw[← fillF_zero F,← hG0]
 refine g_while (fun m fr st=>∃ j:Nat,m=X.length - j∧j≤X.length∧fr= [(1,.ptr 1 0),(2,.ptr 3 0),(5,.ref 12 0 X.length X.length),(11,.sl 1 X.length (X.map iD)),(12,iN X.length),(13,iN j)]∧
  st=⟨(12,.row 3 1 false false (fillF F X.length j))::(10,.row 39 1 false false R)::(9,.gro 9 1 false (N.map sD))::(7,.gro 9 1 false (S.map sD))::(5,.box 25 1 [nilS,nilS,nilS])::(4,tabO 3 3 3 1 S N M)::snpH S N M step (G j),13,0⟩) X.length ?_ ⟨_,_,.refl _ _,0,by omega,Nat.zero_le _,rfl,rfl⟩ ?_
 ·rw[hC',callP_rounds];unfold many;omega
 rintro m fr st ⟨j,rfl,hj,rfl,rfl⟩
 by_cases hlt:j<X.length
 ·have hL:=fillF_len F X.length j hj
  have hset:=fillF_set F X.length j hlt
  have hL2:=fillF_len F X.length (j+1) hlt
  have hget:dload (fillF F X.length (j+1)) j none=some (iN (F j)):=by
   have:(fillF F X.length (j+1))[j]? =some (iD (F j)):=by rw[← hset,List.getElem?_set_self (by omega)];rfl
   simp only[dload,lget_eq,this];rfl
  have hv:=hx j hlt
  have hbd:=snp_bd h1 h2 hv.1 hv.2
  have hGs:G (j+1)=(G j && decide (snp step X[j]! ≤1000000)):=by rw[hG];simp only[fitR,Bool.and_assoc]
  rw[show F j=snp step X[j]! by rw[hF]] at hset hget
  generalize hv':X[j]! =v at*
  have hne:¬ 2*step=0:=by omega
  unfold snp at hset hget hGs hbd
  obtain ⟨b1,b2,b3,b4⟩:=hbd
  by_cases hg:G j=true
  ·by_cases hle:step*((2*v+step) / (2*step))≤1000000
   ·rw[hg,decide_eq_true hle] at hGs
    repeat' (first|(simp (disch:=first|omega|assumption|exact bd (by with_unfolding_all rfl)|exact Or.inl rfl|exact Or.inl trivial|exact okL_map _ (fun _=>rfl) _|(simp only[VVlen]<;>omega)|fail) only[VV0,VV1,VV2,VV3,VV4,VV5,VV6,VV7,VV8,VV9,mkFnV,vargs,slotsL,opdsA,Nat.reduceEqDiff,Nat.reduceLT,Nat.reduceAdd,Nat.reduceBEq,Int.reduceAdd,Int.reduceSub,Int.reduceLT,Int.reduceLE,Int.reduceEq,Int.reduceNeg,↓reduceIte,reduceCtorEq,scL,scD,expand,List.replicate,c35l0,iD_dv,hv',hset,hget,snpH,hg])|apply gC_drawW|((first|apply gI_dec|apply gG_dec|apply gPG_dec|apply gI_var|apply gG_var|apply gPG_var)<;>intro _))
    all_goals try (exfalso;omega)
    exact ⟨_,_,_,by omega,.refl _ _,j+1,rfl,hlt,rfl,by rw[hGs];try rfl⟩
   ·rw[hg,decide_eq_false hle] at hGs
    repeat' (first|(simp (disch:=first|omega|assumption|exact bd (by with_unfolding_all rfl)|exact Or.inl rfl|exact Or.inl trivial|exact okL_map _ (fun _=>rfl) _|(simp only[VVlen]<;>omega)|fail) only[VV0,VV1,VV2,VV3,VV4,VV5,VV6,VV7,VV8,VV9,mkFnV,vargs,slotsL,opdsA,Nat.reduceEqDiff,Nat.reduceLT,Nat.reduceAdd,Nat.reduceBEq,Int.reduceAdd,Int.reduceSub,Int.reduceLT,Int.reduceLE,Int.reduceEq,Int.reduceNeg,↓reduceIte,reduceCtorEq,scL,scD,expand,List.replicate,c35l0,iD_dv,hv',hset,hget,snpH,hg])|apply gC_drawW|((first|apply gI_dec|apply gG_dec|apply gPG_dec|apply gI_var|apply gG_var|apply gPG_var)<;>intro _))
    all_goals try (exfalso;omega)
    exact ⟨_,_,_,by omega,.refl _ _,j+1,rfl,hlt,rfl,by rw[hGs];try rfl⟩
  ·rw[Bool.not_eq_true] at hg
   rw[hg,Bool.false_and] at hGs
   repeat' (first|(simp (disch:=first|omega|assumption|exact bd (by with_unfolding_all rfl)|exact Or.inl rfl|exact Or.inl trivial|exact okL_map _ (fun _=>rfl) _|(simp only[VVlen]<;>omega)|fail) only[VV0,VV1,VV2,VV3,VV4,VV5,VV6,VV7,VV8,VV9,mkFnV,vargs,slotsL,opdsA,Nat.reduceEqDiff,Nat.reduceLT,Nat.reduceAdd,Nat.reduceBEq,Int.reduceAdd,Int.reduceSub,Int.reduceLT,Int.reduceLE,Int.reduceEq,Int.reduceNeg,↓reduceIte,reduceCtorEq,scL,scD,expand,List.replicate,c35l0,iD_dv,hv',hset,hget,snpH,hg])|apply gC_drawW|((first|apply gI_dec|apply gG_dec|apply gPG_dec|apply gI_var|apply gG_var|apply gPG_var)<;>intro _))
   all_goals try (exfalso;omega)
   exact ⟨_,_,_,by omega,.refl _ _,j+1,rfl,hlt,rfl,by rw[hGs];try rfl⟩
 ·have:j=X.length:=by omega
  subst this
  have hfa:=fillF_all X (snp step)
  rw[← hF] at hfa
  have hL:=fillF_len F X.length X.length hj
  rw[show (G 0 && fitR step X X.length)=G X.length by rw[hG];simp[fitR]]
  repeat' (first|(simp (disch:=first|omega|assumption|exact bd (by with_unfolding_all rfl)|exact Or.inl rfl|exact Or.inl trivial|exact okL_map _ (fun _=>rfl) _|(simp only[VVlen]<;>omega)|fail) only[VV0,VV1,VV2,VV3,VV4,VV5,VV6,VV7,VV8,VV9,mkFnV,vargs,slotsL,opdsA,Nat.reduceEqDiff,Nat.reduceLT,Nat.reduceAdd,Nat.reduceBEq,Int.reduceAdd,Int.reduceSub,Int.reduceLT,Int.reduceLE,Int.reduceEq,Int.reduceNeg,↓reduceIte,reduceCtorEq,scL,scD,expand,List.replicate,c35l0,snpH])|apply gC_drawW|((first|apply gI_dec|apply gG_dec|apply gPG_dec|apply gI_var|apply gG_var|apply gPG_var)<;>intro _))
  rw[← hfa]
  exact (weak_snap (t:=0) rfl (snap_refD rfl hL) rfl).trans (weak_toB [(10,10),(9,9),(7,7),(5,5),(4,4),(3,3),(2,2),(1,1),(0,0)] 12 (by omega) rfl (by rw[hn];rfl) rfl rfl)
def eachH2 (S N:List (List UInt8)) (M:List (List Int)) (R:List D):VHp→VHp:=fun r=>(11,.box 25 1 [.gr 2 7 S.length,.gr 2 9 N.length,.ref 10 0 M.length M.length])::(10,.row 39 1 false false R)::(9,.gro 9 1 false (N.map sD))::(7,.gro 9 1 false (S.map sD))::(5,.box 25 1 [nilS,nilS,nilS])::(4,tabO 3 3 3 1 S N M)::r
def rowsS (M:List (List Int)) (step:Int) (j:Nat):List D:=(List.range j).map (fun i=>rowI 4 (M[i]!.map (snp step)))++List.replicate (M.length - j) (.sc (.slice none 0 0))
theorem rowsS_zero (M:List (List Int)) (step:Int):rowsS M step 0=List.replicate M.length (.sc (.slice none 0 0)):=by simp[rowsS]
theorem rowsS_len (M:List (List Int)) (step:Int) (j:Nat) (h:j≤M.length):(rowsS M step j).length=M.length:=by simp[rowsS];omega
theorem rowsS_set (M:List (List Int)) (step:Int) (j:Nat) (h:j<M.length):(rowsS M step j).set j (rowI 4 (M[j]!.map (snp step)))=rowsS M step (j+1):=by
 unfold rowsS
 rw[List.set_append_right _ _ (by simp),List.range_succ,List.map_append,List.append_assoc]
 congr 1
 rw[show M.length - j=(M.length - (j+1))+1 by omega,List.replicate_succ]
 simp
theorem each2_w {C:Ctx} (hC:C.E=EN w (n+3)) (S N:List (List UInt8)) (M:List (List Int)) (step:Int) (h1:1≤step) (h2:step≤10000) (hx:∀ k,k<M.length→∀ j,j<M[k]!.length→0≤M[k]![j]! ∧M[k]![j]! ≤1000000) (hl:∀ k,k<M.length→M[k]!.length≤1000000) (hM:M.length≤1000000) (hS:S.length≤1000000) (hN:N.length≤1000000) (hS0:0<S.length) (hN0:0<N.length):
 CallV C 34 [tableV 3 3 3 1 S N M,.fn 35 [] [.ptr 1 0,.ptr 3 0]] ⟨snpH S N M step true,4,0⟩
  fun v' st'=>v'= .agg [.gr 2 4 S.length,.gr 2 5 N.length,.ref 6 0 M.length M.length]∧st'=⟨(6,.row 39 1 false false (rowsS M step M.length))::(5,.gro 9 1 false (N.map sD))::(4,.gro 9 1 false (S.map sD))::snpH S N M step (fitM step M M.length),7,0⟩:=by
 refine callV_w (prims:=PR w) hC rfl rfl (fun _ _=>rfl) (Nat.le_of_ble_eq_true rfl) ⟨rfl,rfl⟩ fun C' hC' hn=>?_
 replace hn:C'.w0.nx=4:=hn
 have s1:∀ H:VHp,srcOf H 1 (strs 3 S)=some (S.length,S.map sD,[]):=fun H=>srcOf_sl H 1 _ _ _ (by simp)
 have s2:∀ H:VHp,srcOf H 1 (strs 3 N)=some (N.length,N.map sD,[]):=fun H=>srcOf_sl H 1 _ _ _ (by simp)
 have okS:okL (S.map sD)=true:=okL_map _ (fun _=>rfl) _
 have okN:okL (N.map sD)=true:=okL_map _ (fun _=>rfl) _
 have nS:S.length ≠ 0:=by omega
 have nN:N.length ≠ 0:=by omega
 repeat' (first|(simp (disch:=first|omega|assumption|exact bd (by with_unfolding_all rfl)|exact Or.inl rfl|exact Or.inl trivial|exact okL_map _ (fun _=>rfl) _|(simp only[VVlen]<;>omega)|fail) only[VV0,VV1,VV2,VV3,VV4,VV5,VV6,VV7,VV8,VV9,mkFnV,vargs,slotsL,opdsA,Nat.reduceEqDiff,Nat.reduceLT,Nat.reduceAdd,Nat.reduceBEq,Int.reduceAdd,Int.reduceSub,Int.reduceLT,Int.reduceLE,Int.reduceEq,Int.reduceNeg,↓reduceIte,reduceCtorEq,scL,scD,expand,List.replicate,c34,snpH,s1,s2])|apply gC_drawW|((first|apply gI_dec|apply gG_dec|apply gPG_dec|apply gI_var|apply gG_var|apply gPG_var)<;>intro _))
 rw[← rowsS_zero M step]
 refine gL_weak (weak_toB [(11,11),(10,10),(9,9),(7,7),(5,5),(4,4),(3,3),(2,2),(1,1),(0,0)] 12 (by omega) rfl (by rw[hn];rfl) rfl rfl) ?_
 refine g_while (fun m fr st=>∃ j:Nat,m=M.length - j∧j≤M.length∧fr= [(1,.fn 35 [] [.ptr 1 0,.ptr 3 0]),(4,.ptr 5 0),(5,.ptr 11 0),(22,rowsV 3 1 M),(23,iN M.length),(24,iN j)]∧
  st=⟨eachH2 S N M (rowsS M step j) (snpH S N M step (fitM step M j)),12,0⟩) M.length ?_ ⟨_,_,?_,0,by omega,Nat.zero_le _,rfl,rfl⟩ ?_
 ·rw[hC',callP_rounds];unfold many;omega
 ·exact .refl _ _
 rintro m fr st ⟨j,rfl,hj,rfl,rfl⟩
 by_cases hlt:j<M.length
 ·have hp:=fun C'' (h'':C''.E=C'.E)=>snap1_w w n (C:=C'') (by rw[h'',hC']) S N M step (fitM step M j) M[j]! (rowsS M step j) h1 h2 (hx j hlt) (hl j hlt)
  simp (disch:=first|omega|assumption|exact bd (by with_unfolding_all rfl)|exact Or.inl rfl|exact Or.inl trivial|exact okL_map _ (fun _=>rfl) _|(simp only[VVlen]<;>omega)|fail) only[VV0,VV1,VV2,VV3,VV4,VV5,VV6,VV7,VV8,VV9,mkFnV,vargs,slotsL,opdsA,Nat.reduceEqDiff,Nat.reduceLT,Nat.reduceAdd,Nat.reduceBEq,Int.reduceAdd,Int.reduceSub,Int.reduceLT,Int.reduceLE,Int.reduceEq,Int.reduceNeg,↓reduceIte,reduceCtorEq,scL,scD,expand,List.replicate,c34l0,eachH2,snpH]
  refine gC_drawWC (l:= [⟨⟨some 29,none,.fldA 2 (.tmp 5)⟩,[],none⟩,⟨⟨some 30,none,.load none (.tmp 29)⟩,[],none⟩,⟨⟨some 31,none,.mov (.tmp 6)⟩,[0,1],none⟩,⟨⟨some 32,none,.mov (.tmp 1)⟩,[0,1,2],none⟩,⟨⟨some 33,none,.mov (.tmp 7)⟩,[0,1,2,3],none⟩])
   (o:=11) (k:=0) rfl rfl (by decide) ⟨_,rfl,rfl⟩ ?_
  simp (disch:=first|omega|assumption|exact bd (by with_unfolding_all rfl)|exact Or.inl rfl|exact Or.inl trivial|exact okL_map _ (fun _=>rfl) _|(simp only[VVlen]<;>omega)|fail) only[VV0,VV1,VV2,VV3,VV4,VV5,VV6,VV7,VV8,VV9,mkFnV,vargs,slotsL,opdsA,Nat.reduceEqDiff,Nat.reduceLT,Nat.reduceAdd,Nat.reduceBEq,Int.reduceAdd,Int.reduceSub,Int.reduceLT,Int.reduceLE,Int.reduceEq,Int.reduceNeg,↓reduceIte,reduceCtorEq,scL,scD,expand,List.replicate,wpD_cons,wpDV_some,wpD_nil]
  refine ⟨_,_,_,_,_,_,_,rfl,rfl,rfl,?_,rfl,rfl,rfl,rfl,rfl,Nat.zero_le _,?_,?_,fun C'' h'' _=>hp C'' h'',?_⟩
  ·intro ys s;rw[hC'];rfl
  ·rfl
  ·exact noH_get rfl
  ·have hL:=rowsS_len M step j hj
   have hset:=rowsS_set M step j hlt
   unfold rowI at hset
   rw[List.length_map] at hset
   repeat' (first|(simp (disch:=first|omega|assumption|exact bd (by with_unfolding_all rfl)|exact Or.inl rfl|exact Or.inl trivial|exact okL_map _ (fun _=>rfl) _|(simp only[VVlen]<;>omega)|fail) only[VV0,VV1,VV2,VV3,VV4,VV5,VV6,VV7,VV8,VV9,mkFnV,vargs,slotsL,opdsA,Nat.reduceEqDiff,Nat.reduceLT,Nat.reduceAdd,Nat.reduceBEq,Int.reduceAdd,Int.reduceSub,Int.reduceLT,Int.reduceLE,Int.reduceEq,Int.reduceNeg,↓reduceIte,reduceCtorEq,scL,scD,expand,List.replicate,snpH,hset])|apply gC_drawW|((first|apply gI_dec|apply gG_dec|apply gPG_dec|apply gI_var|apply gG_var|apply gPG_var)<;>intro _))
   exact ⟨_,_,_,by omega,.refl _ _,j+1,rfl,hlt,rfl,rfl⟩
 ·have:j=M.length:=by omega
  subst this
  repeat' (first|(simp (disch:=first|omega|assumption|exact bd (by with_unfolding_all rfl)|exact Or.inl rfl|exact Or.inl trivial|exact okL_map _ (fun _=>rfl) _|(simp only[VVlen]<;>omega)|fail) only[VV0,VV1,VV2,VV3,VV4,VV5,VV6,VV7,VV8,VV9,mkFnV,vargs,slotsL,opdsA,Nat.reduceEqDiff,Nat.reduceLT,Nat.reduceAdd,Nat.reduceBEq,Int.reduceAdd,Int.reduceSub,Int.reduceLT,Int.reduceLE,Int.reduceEq,Int.reduceNeg,↓reduceIte,reduceCtorEq,scL,scD,expand,List.replicate,c34l0,eachH2,snpH])|apply gC_drawW|((first|apply gI_dec|apply gG_dec|apply gPG_dec|apply gI_var|apply gG_var|apply gPG_var)<;>intro _))
  exact weak_toB [(10,6),(9,5),(7,4),(3,3),(2,2),(1,1),(0,0)] 7 (by omega) rfl (by rw[hn];rfl) rfl rfl
end
abbrev snpM (M:List (List Int)) (step:Int):List (List Int):=M.map fun l=>l.map (snp step)
theorem rowsS_all (M:List (List Int)) (step:Int):rowsS M step M.length=(snpM M step).map (rowI 4):=by
 simp only[rowsS,Nat.sub_self,List.replicate_zero,List.append_nil]
 apply List.ext_getElem
 ·simp
 ·intro i h1 h2
  simp at h1 ⊢
  simp[h1]
theorem snap_t {H:VHp} {v v':V} {x:Value} (h:snapV H v=some v'):snapV H (.tup [v,.sc x])=some (.tup [v',.sc x]):=by
 simp only[snapV,snapL,h,Option.bind_some,Option.map_some]
section
variable (w:World) (n:Nat)
theorem snap_bad (S N:List (List UInt8)) (M:List (List Int)) (hm:Mod S N M) (step:Int) (hst:isInt step) (h:Val S N M) (ha:¬ (1≤step∧step≤10000)):
 VSpec (EN w (n+4)) 18 [tableV 3 3 3 1 S N M,iN step] (.tup [noT,iN 2]) ⟨[],0,0⟩:=by
 refine vspec_flat rfl rfl (fun _ _=>rfl) (Nat.le_of_ble_eq_true rfl) (oldVals w) rfl fun C hC h0=>?_
 have hc:=check_p w n 3 3 3 1 S N M hm
 rw[(val_iff S N M).2 h] at hc
 unfold isInt at hst
 repeat' (first|(simp (disch:=first|omega|assumption|exact bd (by with_unfolding_all rfl)|exact Or.inl rfl|exact Or.inl trivial|exact okL_map _ (fun _=>rfl) _|(simp only[VVlen]<;>omega)|fail) only[VV0,VV1,VV2,VV3,VV4,VV5,VV6,VV7,VV8,VV9,mkFnV,vargs,slotsL,opdsA,Nat.reduceEqDiff,Nat.reduceLT,Nat.reduceAdd,Nat.reduceBEq,Int.reduceAdd,Int.reduceSub,Int.reduceLT,Int.reduceLE,Int.reduceEq,Int.reduceNeg,↓reduceIte,reduceCtorEq,scL,scD,expand,List.replicate,c18])|apply gC_drawW|((first|apply gI_dec|apply gG_dec|apply gPG_dec|apply gI_var|apply gG_var|apply gPG_var)<;>intro _))
 refine callV_flat (by rw[hC];exact hc.flat rfl rfl) ?_
 repeat' (first|(simp (disch:=first|omega|assumption|exact bd (by with_unfolding_all rfl)|exact Or.inl rfl|exact Or.inl trivial|exact okL_map _ (fun _=>rfl) _|(simp only[VVlen]<;>omega)|fail) only[VV0,VV1,VV2,VV3,VV4,VV5,VV6,VV7,VV8,VV9,mkFnV,vargs,slotsL,opdsA,Nat.reduceEqDiff,Nat.reduceLT,Nat.reduceAdd,Nat.reduceBEq,Int.reduceAdd,Int.reduceSub,Int.reduceLT,Int.reduceLE,Int.reduceEq,Int.reduceNeg,↓reduceIte,reduceCtorEq,scL,scD,expand,List.replicate])|apply gC_drawW|((first|apply gI_dec|apply gG_dec|apply gPG_dec|apply gI_var|apply gG_var|apply gPG_var)<;>intro _))
 all_goals try (exfalso;omega)
 all_goals exact weak_flat rfl h0 rfl
theorem snap_p (S N:List (List UInt8)) (M:List (List Int)) (hm:Mod S N M) (step:Int) (h:Val S N M) (h1:1≤step) (h2:step≤10000):
 VSpec (EN w (n+4)) 18 [tableV 3 3 3 1 S N M,iN step] (if fitM step M M.length=true then .tup [tableV 4 4 4 4 S N (snpM M step),iN 0] else .tup [noT,iN 16]) ⟨[],0,0⟩:=by
 have hc:=check_p w n 3 3 3 1 S N M hm
 rw[(val_iff S N M).2 h] at hc
 have hS:=h.s
 have hN:=h.n
 have hM:M.length≤30:=by have:=h.m;omega
 by_cases hf:fitM step M M.length=true
 ·rw[if_pos hf]
  refine vspec_g rfl rfl (fun _ _=>rfl) (Nat.le_of_ble_eq_true rfl) (oldVals w) (retOK_nil (by simp only[Cl,ClL,and_true,true_and];trivial)) rfl fun C hC h0=>?_
  obtain ⟨v,st',⟨rfl,rfl⟩,he⟩:=each2_w w n hC S N M step h1 h2 (fun k hk j hj=>⟨((h.row hk).2 j hj).1,((h.row hk).2 j hj).2.1⟩) (fun k hk=>by have:=(h.row hk).1;omega) (by omega) (by omega) (by omega) h.s1 h.n1
  rw[hf] at he
  repeat' (first|(simp (disch:=first|omega|assumption|exact bd (by with_unfolding_all rfl)|exact Or.inl rfl|exact Or.inl trivial|exact okL_map _ (fun _=>rfl) _|(simp only[VVlen]<;>omega)|fail) only[VV0,VV1,VV2,VV3,VV4,VV5,VV6,VV7,VV8,VV9,mkFnV,vargs,slotsL,opdsA,Nat.reduceEqDiff,Nat.reduceLT,Nat.reduceAdd,Nat.reduceBEq,Int.reduceAdd,Int.reduceSub,Int.reduceLT,Int.reduceLE,Int.reduceEq,Int.reduceNeg,↓reduceIte,reduceCtorEq,scL,scD,expand,List.replicate,c18])|apply gC_drawW|((first|apply gI_dec|apply gG_dec|apply gPG_dec|apply gI_var|apply gG_var|apply gPG_var)<;>intro _))
  refine callV_flat (by rw[hC];exact hc.flat rfl rfl) ?_
  repeat' (first|(simp (disch:=first|omega|assumption|exact bd (by with_unfolding_all rfl)|exact Or.inl rfl|exact Or.inl trivial|exact okL_map _ (fun _=>rfl) _|(simp only[VVlen]<;>omega)|fail) only[VV0,VV1,VV2,VV3,VV4,VV5,VV6,VV7,VV8,VV9,mkFnV,vargs,slotsL,opdsA,Nat.reduceEqDiff,Nat.reduceLT,Nat.reduceAdd,Nat.reduceBEq,Int.reduceAdd,Int.reduceSub,Int.reduceLT,Int.reduceLE,Int.reduceEq,Int.reduceNeg,↓reduceIte,reduceCtorEq,scL,scD,expand,List.replicate])|apply gC_drawW|((first|apply gI_dec|apply gG_dec|apply gPG_dec|apply gI_var|apply gG_var|apply gPG_var)<;>intro _))
  all_goals try (exfalso;omega)
  refine ⟨_,_,?_,he⟩
  rw[rowsS_all]
  repeat' (first|(simp (disch:=first|omega|assumption|exact bd (by with_unfolding_all rfl)|exact Or.inl rfl|exact Or.inl trivial|exact okL_map _ (fun _=>rfl) _|(simp only[VVlen]<;>omega)|fail) only[VV0,VV1,VV2,VV3,VV4,VV5,VV6,VV7,VV8,VV9,mkFnV,vargs,slotsL,opdsA,Nat.reduceEqDiff,Nat.reduceLT,Nat.reduceAdd,Nat.reduceBEq,Int.reduceAdd,Int.reduceSub,Int.reduceLT,Int.reduceLE,Int.reduceEq,Int.reduceNeg,↓reduceIte,reduceCtorEq,scL,scD,expand,List.replicate,snpH])|apply gC_drawW|((first|apply gI_dec|apply gG_dec|apply gPG_dec|apply gI_var|apply gG_var|apply gPG_var)<;>intro _))
  have eM:(snpM M step).length=M.length:=by simp
  refine finA (snap_t (snap_3 (a':=strs 4 S) (b':=strs 4 N) (c':=rowsV 4 4 (snpM M step)) (snap_grD (n:=S.length) (l:=S.map sD) rfl (by simp)) (snap_grD (n:=N.length) (l:=N.map sD) rfl (by simp)) ?_)) rfl rfl rfl h0
  rw[show rowsV 4 4 (snpM M step)= .sl 4 M.length ((snpM M step).map (rowI 4)) by show V.sl 4 _ _=_;rw[eM]]
  exact snap_refD rfl (by simp)
 ·rw[if_neg hf]
  rw[Bool.not_eq_true] at hf
  refine vspec_flat rfl rfl (fun _ _=>rfl) (Nat.le_of_ble_eq_true rfl) (oldVals w) rfl fun C hC h0=>?_
  obtain ⟨v,st',⟨rfl,rfl⟩,he⟩:=each2_w w n hC S N M step h1 h2 (fun k hk j hj=>⟨((h.row hk).2 j hj).1,((h.row hk).2 j hj).2.1⟩) (fun k hk=>by have:=(h.row hk).1;omega) (by omega) (by omega) (by omega) h.s1 h.n1
  rw[hf] at he
  repeat' (first|(simp (disch:=first|omega|assumption|exact bd (by with_unfolding_all rfl)|exact Or.inl rfl|exact Or.inl trivial|exact okL_map _ (fun _=>rfl) _|(simp only[VVlen]<;>omega)|fail) only[VV0,VV1,VV2,VV3,VV4,VV5,VV6,VV7,VV8,VV9,mkFnV,vargs,slotsL,opdsA,Nat.reduceEqDiff,Nat.reduceLT,Nat.reduceAdd,Nat.reduceBEq,Int.reduceAdd,Int.reduceSub,Int.reduceLT,Int.reduceLE,Int.reduceEq,Int.reduceNeg,↓reduceIte,reduceCtorEq,scL,scD,expand,List.replicate,c18])|apply gC_drawW|((first|apply gI_dec|apply gG_dec|apply gPG_dec|apply gI_var|apply gG_var|apply gPG_var)<;>intro _))
  refine callV_flat (by rw[hC];exact hc.flat rfl rfl) ?_
  repeat' (first|(simp (disch:=first|omega|assumption|exact bd (by with_unfolding_all rfl)|exact Or.inl rfl|exact Or.inl trivial|exact okL_map _ (fun _=>rfl) _|(simp only[VVlen]<;>omega)|fail) only[VV0,VV1,VV2,VV3,VV4,VV5,VV6,VV7,VV8,VV9,mkFnV,vargs,slotsL,opdsA,Nat.reduceEqDiff,Nat.reduceLT,Nat.reduceAdd,Nat.reduceBEq,Int.reduceAdd,Int.reduceSub,Int.reduceLT,Int.reduceLE,Int.reduceEq,Int.reduceNeg,↓reduceIte,reduceCtorEq,scL,scD,expand,List.replicate])|apply gC_drawW|((first|apply gI_dec|apply gG_dec|apply gPG_dec|apply gI_var|apply gG_var|apply gPG_var)<;>intro _))
  all_goals try (exfalso;omega)
  refine ⟨_,_,?_,he⟩
  rw[rowsS_all]
  repeat' (first|(simp (disch:=first|omega|assumption|exact bd (by with_unfolding_all rfl)|exact Or.inl rfl|exact Or.inl trivial|exact okL_map _ (fun _=>rfl) _|(simp only[VVlen]<;>omega)|fail) only[VV0,VV1,VV2,VV3,VV4,VV5,VV6,VV7,VV8,VV9,mkFnV,vargs,slotsL,opdsA,Nat.reduceEqDiff,Nat.reduceLT,Nat.reduceAdd,Nat.reduceBEq,Int.reduceAdd,Int.reduceSub,Int.reduceLT,Int.reduceLE,Int.reduceEq,Int.reduceNeg,↓reduceIte,reduceCtorEq,scL,scD,expand,List.replicate,snpH])|apply gC_drawW|((first|apply gI_dec|apply gG_dec|apply gPG_dec|apply gI_var|apply gG_var|apply gPG_var)<;>intro _))
  exact weak_flat rfl h0 rfl
end
set_option maxHeartbeats 8000000
theorem Val.mod {S N:List (List UInt8)} {M:List (List Int)} (v:Val S N M):Mod S N M:=by
 have hm:=v.m
 have hn:=v.n
 have hs:=v.s
 have hw:∀ x:List UInt8,wordS x=true→x.length≤40:=fun x hx=>(of_decide_eq_true hx).2.1
 refine ⟨by omega,by omega,by omega,fun j hj=>?_,fun j hj=>?_,fun j hj=>?_⟩
 ·have:=hw _ (v.wsj hj);omega
 ·have:=hw _ (((wF_iff N N.length).1 v.wn).2 j hj);omega
 ·have:=(v.row hj).1;omega
set_option maxHeartbeats 4000000
def near (a d:Int):Int:=(2*a+d) / (2*d)
theorem near_eq (a d:Int) (h0:0≤a) (hd:1≤d):near a d=if d≤2*(a - a / d*d) then a / d+1 else a / d:=by
 have e:=Int.mul_ediv_add_emod a d
 have r0:=Int.emod_nonneg a (show d ≠ 0 by omega)
 have r1:=Int.emod_lt_of_pos a (show 0<d by omega)
 have hc:a / d*d=d*(a / d):=Int.mul_comm _ _
 rw[hc]
 generalize hq:a / d=q at*
 generalize hr:a % d=r at*
 have e2:2*a+d=(2*r+d)+2*d*q:=by
  rw[← e,Int.mul_add,Int.mul_assoc];omega
 unfold near
 rw[e2,Int.add_mul_ediv_left _ _ (show 2*d ≠ 0 by omega)]
 generalize hp:d*q=p at*
 by_cases h:d≤2*(a - p)
 ·rw[if_pos h]
  have:(2*r+d) / (2*d)=1:=by
   rw[Int.ediv_eq_iff_of_pos (by omega)]
   omega
  omega
 ·rw[if_neg h]
  have:(2*r+d) / (2*d)=0:=Int.ediv_eq_zero_of_lt (by omega) (by omega)
  omega
section
variable (w:World) (n:Nat)
theorem near_p (a d:Int) (h0:0≤a) (ha:a≤100000000000) (hd:1≤d) (hd1:d≤1000000):VSpec (EN w (n+1)) 29 [iN a,iN d] (iN (near a d)) ⟨[],0,0⟩:=by
 refine vspec_flat rfl rfl (fun _ _=>rfl) (Nat.le_of_ble_eq_true rfl) (oldVals w) rfl fun C hC h0'=>?_
 rw[near_eq a d h0 hd]
 have q0:0≤a / d:=Int.ediv_nonneg h0 (by omega)
 have q1:a / d≤a:=Int.ediv_le_self _ h0
 have q2:a / d*d≤a:=Int.ediv_mul_le a (by omega)
 have q3:0≤a / d*d:=Int.mul_nonneg q0 (by omega)
 have q4:a - a / d*d<d:=by
  have e:=Int.mul_ediv_add_emod a d
  have r1:=Int.emod_lt_of_pos a (show 0<d by omega)
  have:a / d*d=d*(a / d):=Int.mul_comm _ _
  omega
 generalize hq:a / d=q at*
 generalize hp:q*d=p at*
 by_cases h:d≤2*(a - p)
 ·rw[if_pos h]
  repeat' (first|(simp (disch:=first|omega|assumption|exact bd (by with_unfolding_all rfl)|exact Or.inl rfl|exact Or.inl trivial|exact okL_map _ (fun _=>rfl) _|(simp only[VVlen]<;>omega)|fail) only[VV0,VV1,VV2,VV3,VV4,VV5,VV6,VV7,VV8,VV9,mkFnV,vargs,slotsL,opdsA,Nat.reduceEqDiff,Nat.reduceLT,Nat.reduceAdd,Nat.reduceBEq,Int.reduceAdd,Int.reduceSub,Int.reduceLT,Int.reduceLE,Int.reduceEq,Int.reduceNeg,↓reduceIte,reduceCtorEq,scL,scD,expand,List.replicate,c29,hq,hp])|apply gC_drawW|((first|apply gI_dec|apply gG_dec|apply gPG_dec|apply gI_var|apply gG_var|apply gPG_var)<;>intro _))
  all_goals try (exfalso;omega)
  exact weak_flat rfl h0' rfl
 ·rw[if_neg h]
  repeat' (first|(simp (disch:=first|omega|assumption|exact bd (by with_unfolding_all rfl)|exact Or.inl rfl|exact Or.inl trivial|exact okL_map _ (fun _=>rfl) _|(simp only[VVlen]<;>omega)|fail) only[VV0,VV1,VV2,VV3,VV4,VV5,VV6,VV7,VV8,VV9,mkFnV,vargs,slotsL,opdsA,Nat.reduceEqDiff,Nat.reduceLT,Nat.reduceAdd,Nat.reduceBEq,Int.reduceAdd,Int.reduceSub,Int.reduceLT,Int.reduceLE,Int.reduceEq,Int.reduceNeg,↓reduceIte,reduceCtorEq,scL,scD,expand,List.replicate,c29,hq,hp])|apply gC_drawW|((first|apply gI_dec|apply gG_dec|apply gPG_dec|apply gI_var|apply gG_var|apply gPG_var)<;>intro _))
  all_goals try (exfalso;omega)
  exact weak_flat rfl h0' rfl
end
section
variable (w:World) (n:Nat)
theorem rfresh_p (s t u r:Nat) (S N:List (List UInt8)) (M:List (List Int)) (x:List UInt8) (hS:S.length≤1000000) (hx:x.length≤1000):VSpec (EN w (n+2)) 32 [tableV s t u r S N M,strV x] (iN (freshF S x)) ⟨[],0,0⟩:=by
 refine vspec_flat rfl rfl (fun _ _=>rfl) (Nat.le_of_ble_eq_true rfl) (oldVals w) rfl fun C hC h0=>?_
 have hw:=rword_p w n x (by omega)
 have hi:=rindex_p w n s S x (by omega)
 unfold freshF
 by_cases h1:20≤S.length
 ·rw[if_pos h1]
  repeat' (first|(simp (disch:=first|omega|assumption|exact bd (by with_unfolding_all rfl)|exact Or.inl rfl|exact Or.inl trivial|exact okL_map _ (fun _=>rfl) _|(simp only[VVlen]<;>omega)|fail) only[VV0,VV1,VV2,VV3,VV4,VV5,VV6,VV7,VV8,VV9,mkFnV,vargs,slotsL,opdsA,Nat.reduceEqDiff,Nat.reduceLT,Nat.reduceAdd,Nat.reduceBEq,Int.reduceAdd,Int.reduceSub,Int.reduceLT,Int.reduceLE,Int.reduceEq,Int.reduceNeg,↓reduceIte,reduceCtorEq,scL,scD,expand,List.replicate,c32])|apply gC_drawW|((first|apply gI_dec|apply gG_dec|apply gPG_dec|apply gI_var|apply gG_var|apply gPG_var)<;>intro _))
  all_goals try (exfalso;omega)
  exact weak_flat rfl h0 rfl
 rw[if_neg h1]
 repeat' (first|(simp (disch:=first|omega|assumption|exact bd (by with_unfolding_all rfl)|exact Or.inl rfl|exact Or.inl trivial|exact okL_map _ (fun _=>rfl) _|(simp only[VVlen]<;>omega)|fail) only[VV0,VV1,VV2,VV3,VV4,VV5,VV6,VV7,VV8,VV9,mkFnV,vargs,slotsL,opdsA,Nat.reduceEqDiff,Nat.reduceLT,Nat.reduceAdd,Nat.reduceBEq,Int.reduceAdd,Int.reduceSub,Int.reduceLT,Int.reduceLE,Int.reduceEq,Int.reduceNeg,↓reduceIte,reduceCtorEq,scL,scD,expand,List.replicate,c32])|apply gC_drawW|((first|apply gI_dec|apply gG_dec|apply gPG_dec|apply gI_var|apply gG_var|apply gPG_var)<;>intro _))
 all_goals try (exfalso;omega)
 refine callV_flat (by rw[hC];exact hw.flat rfl rfl) ?_
 by_cases h2:wordS x=false
 ·rw[if_pos h2,h2]
  repeat' (first|(simp (disch:=first|omega|assumption|exact bd (by with_unfolding_all rfl)|exact Or.inl rfl|exact Or.inl trivial|exact okL_map _ (fun _=>rfl) _|(simp only[VVlen]<;>omega)|fail) only[VV0,VV1,VV2,VV3,VV4,VV5,VV6,VV7,VV8,VV9,mkFnV,vargs,slotsL,opdsA,Nat.reduceEqDiff,Nat.reduceLT,Nat.reduceAdd,Nat.reduceBEq,Int.reduceAdd,Int.reduceSub,Int.reduceLT,Int.reduceLE,Int.reduceEq,Int.reduceNeg,↓reduceIte,reduceCtorEq,scL,scD,expand,List.replicate])|apply gC_drawW|((first|apply gI_dec|apply gG_dec|apply gPG_dec|apply gI_var|apply gG_var|apply gPG_var)<;>intro _))
  exact weak_flat rfl h0 rfl
 rw[if_neg h2]
 rw[Bool.not_eq_false] at h2
 rw[h2]
 repeat' (first|(simp (disch:=first|omega|assumption|exact bd (by with_unfolding_all rfl)|exact Or.inl rfl|exact Or.inl trivial|exact okL_map _ (fun _=>rfl) _|(simp only[VVlen]<;>omega)|fail) only[VV0,VV1,VV2,VV3,VV4,VV5,VV6,VV7,VV8,VV9,mkFnV,vargs,slotsL,opdsA,Nat.reduceEqDiff,Nat.reduceLT,Nat.reduceAdd,Nat.reduceBEq,Int.reduceAdd,Int.reduceSub,Int.reduceLT,Int.reduceLE,Int.reduceEq,Int.reduceNeg,↓reduceIte,reduceCtorEq,scL,scD,expand,List.replicate])|apply gC_drawW|((first|apply gI_dec|apply gG_dec|apply gPG_dec|apply gI_var|apply gG_var|apply gPG_var)<;>intro _))
 refine callV_flat (by rw[hC];exact hi.flat rfl rfl) ?_
 by_cases h3:0≤placeG S x S.length
 ·rw[if_pos h3]
  repeat' (first|(simp (disch:=first|omega|assumption|exact bd (by with_unfolding_all rfl)|exact Or.inl rfl|exact Or.inl trivial|exact okL_map _ (fun _=>rfl) _|(simp only[VVlen]<;>omega)|fail) only[VV0,VV1,VV2,VV3,VV4,VV5,VV6,VV7,VV8,VV9,mkFnV,vargs,slotsL,opdsA,Nat.reduceEqDiff,Nat.reduceLT,Nat.reduceAdd,Nat.reduceBEq,Int.reduceAdd,Int.reduceSub,Int.reduceLT,Int.reduceLE,Int.reduceEq,Int.reduceNeg,↓reduceIte,reduceCtorEq,scL,scD,expand,List.replicate])|apply gC_drawW|((first|apply gI_dec|apply gG_dec|apply gPG_dec|apply gI_var|apply gG_var|apply gPG_var)<;>intro _))
  all_goals try (exfalso;omega)
  exact weak_flat rfl h0 rfl
 ·rw[if_neg h3]
  repeat' (first|(simp (disch:=first|omega|assumption|exact bd (by with_unfolding_all rfl)|exact Or.inl rfl|exact Or.inl trivial|exact okL_map _ (fun _=>rfl) _|(simp only[VVlen]<;>omega)|fail) only[VV0,VV1,VV2,VV3,VV4,VV5,VV6,VV7,VV8,VV9,mkFnV,vargs,slotsL,opdsA,Nat.reduceEqDiff,Nat.reduceLT,Nat.reduceAdd,Nat.reduceBEq,Int.reduceAdd,Int.reduceSub,Int.reduceLT,Int.reduceLE,Int.reduceEq,Int.reduceNeg,↓reduceIte,reduceCtorEq,scL,scD,expand,List.replicate])|apply gC_drawW|((first|apply gI_dec|apply gG_dec|apply gPG_dec|apply gI_var|apply gG_var|apply gPG_var)<;>intro _))
  all_goals try (exfalso;omega)
  exact weak_flat rfl h0 rfl
end
theorem near_bet (l:List Int) (i:Nat) (num den:Int):near (l[i]! *den+(l[i+1]! - l[i]!)*num) den=bet l i num den:=by
 unfold near bet
 rw[show l[i]! *den+(l[i+1]! - l[i]!)*num=l[i]! *(den - num)+l[i+1]! *num by rw[Int.sub_mul,Int.mul_sub];omega]
section
variable (w:World) (n:Nat)
theorem rbetween_p (S N:List (List UInt8)) (M:List (List Int)) (hm:Mod S N M) (i:Nat) (num den:Int) (h:Val S N M) (ha:argB S.length i num den):
 VSpec (EN w (n+4)) 13 [tableV 3 3 3 1 S N M,iN i,iN num,iN den] (.tup [.sl 3 M.length ((betL M i num den).map iD),iN 0]) ⟨[],0,0⟩:=by
 refine vspec_g rfl rfl (fun _ _=>rfl) (Nat.le_of_ble_eq_true rfl) (oldVals w) retOK_fin rfl fun C hC h0=>?_
 have hc:=rcheck_p w n 3 3 3 1 S N M hm
 rw[(val_iff S N M).2 h] at hc
 have hs:=h.s
 have hM:M.length≤30:=by have:=h.m;have:=h.n;omega
 unfold argB at ha
 repeat' (first|(simp (disch:=first|omega|assumption|exact bd (by with_unfolding_all rfl)|exact Or.inl rfl|exact Or.inl trivial|exact okL_map _ (fun _=>rfl) _|(simp only[VVlen]<;>omega)|fail) only[VV0,VV1,VV2,VV3,VV4,VV5,VV6,VV7,VV8,VV9,mkFnV,vargs,slotsL,opdsA,Nat.reduceEqDiff,Nat.reduceLT,Nat.reduceAdd,Nat.reduceBEq,Int.reduceAdd,Int.reduceSub,Int.reduceLT,Int.reduceLE,Int.reduceEq,Int.reduceNeg,↓reduceIte,reduceCtorEq,scL,scD,expand,List.replicate,c13])|apply gC_drawW|((first|apply gI_dec|apply gG_dec|apply gPG_dec|apply gI_var|apply gG_var|apply gPG_var)<;>intro _))
 refine callV_flat (by rw[hC];exact hc.flat rfl rfl) ?_
 repeat' (first|(simp (disch:=first|omega|assumption|exact bd (by with_unfolding_all rfl)|exact Or.inl rfl|exact Or.inl trivial|exact okL_map _ (fun _=>rfl) _|(simp only[VVlen]<;>omega)|fail) only[VV0,VV1,VV2,VV3,VV4,VV5,VV6,VV7,VV8,VV9,mkFnV,vargs,slotsL,opdsA,Nat.reduceEqDiff,Nat.reduceLT,Nat.reduceAdd,Nat.reduceBEq,Int.reduceAdd,Int.reduceSub,Int.reduceLT,Int.reduceLE,Int.reduceEq,Int.reduceNeg,↓reduceIte,reduceCtorEq,scL,scD,expand,List.replicate])|apply gC_drawW|((first|apply gI_dec|apply gG_dec|apply gPG_dec|apply gI_var|apply gG_var|apply gPG_var)<;>intro _))
 all_goals try (exfalso;omega)
 all_goals refine g_while (fun m fr st=>∃ j:Nat,m=M.length - j∧j≤M.length∧fr= [(1,iN i),(2,iN num),(3,iN den),(4,.ptr 0 0),(11,.gr 2 1 j),(12,iN j)]∧
  st=⟨[(1,.gro 3 1 false ((betL (M.take j) i num den).map iD)),(0,tabO 3 3 3 1 S N M)],2,0⟩) M.length ?_ ⟨_,_,weak_nilSlot 11 3 1 rfl,0,by omega,Nat.zero_le _,rfl,rfl⟩ ?_
 all_goals try (rw[hC,callP_rounds];unfold many;omega)
 all_goals
  rintro m fr st ⟨j,rfl,hj,rfl,rfl⟩
  by_cases hlt:j<M.length
  ·have hr:=h.row hlt
   have hb:=near_bet M[j]! i num den
   have ew:(betL (M.take j) i num den).map iD++ [iD (bet M[j]! i num den)]=(betL (M.take (j+1)) i num den).map iD:=by
    rw[List.take_succ_eq_append_getElem hlt,← getElem!_pos M j hlt];simp[betL]
   have hlen:((betL (M.take j) i num den).map iD).length=j:=by simp[betL];omega
   have hok:okL ((betL (M.take j) i num den).map iD)=true:=okL_map _ (fun _=>rfl) _
   generalize (betL (M.take j) i num den).map iD=L at*
   generalize hx:M[j]! =X at*
   obtain ⟨x1,x2⟩:=hr
   have ha1:=x2 i (by omega)
   have hb1:=x2 (i+1) (by omega)
   generalize hA:X[i]! =A at*
   generalize hBB:X[i+1]! =B at*
   generalize bet X i num den=y at*
   have p1:0≤A*den∧A*den≤1000000000:=⟨Int.mul_nonneg (by omega) (by omega),by have:=Int.mul_le_mul (show A≤1000000 by omega) (show den≤1000 by omega) (by omega) (by omega);omega⟩
   have p2:0≤A*(den - num)∧A*(den - num)≤1000000000:=⟨Int.mul_nonneg (by omega) (by omega),by have:=Int.mul_le_mul (show A≤1000000 by omega) (show den - num≤1000 by omega) (by omega) (by omega);omega⟩
   have p3:0≤B*num∧B*num≤1000000000:=⟨Int.mul_nonneg (by omega) (by omega),by have:=Int.mul_le_mul (show B≤1000000 by omega) (show num≤1000 by omega) (by omega) (by omega);omega⟩
   have p4:A*den+(B - A)*num=A*(den - num)+B*num:=by rw[Int.sub_mul,Int.mul_sub];omega
   have hnp:=near_p w (n+2) (A*den+(B - A)*num) den (by omega) (by omega) (by omega) (by omega)
   rw[hb] at hnp
   have hti:((i:Int)+1).toNat=i+1:=by omega
   repeat' (first|(simp (disch:=first|omega|assumption|exact bd (by with_unfolding_all rfl)|exact Or.inl rfl|exact Or.inl trivial|exact okL_map _ (fun _=>rfl) _|(simp only[VVlen]<;>omega)|fail) only[VV0,VV1,VV2,VV3,VV4,VV5,VV6,VV7,VV8,VV9,mkFnV,vargs,slotsL,opdsA,Nat.reduceEqDiff,Nat.reduceLT,Nat.reduceAdd,Nat.reduceBEq,Int.reduceAdd,Int.reduceSub,Int.reduceLT,Int.reduceLE,Int.reduceEq,Int.reduceNeg,↓reduceIte,reduceCtorEq,scL,scD,expand,List.replicate,c13l0,rowI_dv,hx,iD_dv,hA,hBB,hti])|apply gC_drawW|((first|apply gI_dec|apply gG_dec|apply gPG_dec|apply gI_var|apply gG_var|apply gPG_var)<;>intro _))
   all_goals try (exfalso;omega)
   refine call0_of ((fun st=>hnp.of hC rfl st rfl) _) ?_
   repeat' (first|(simp (disch:=first|omega|assumption|exact bd (by with_unfolding_all rfl)|exact Or.inl rfl|exact Or.inl trivial|exact okL_map _ (fun _=>rfl) _|(simp only[VVlen]<;>omega)|fail) only[VV0,VV1,VV2,VV3,VV4,VV5,VV6,VV7,VV8,VV9,mkFnV,vargs,slotsL,opdsA,Nat.reduceEqDiff,Nat.reduceLT,Nat.reduceAdd,Nat.reduceBEq,Int.reduceAdd,Int.reduceSub,Int.reduceLT,Int.reduceLE,Int.reduceEq,Int.reduceNeg,↓reduceIte,reduceCtorEq,scL,scD,expand,List.replicate,vd_app,dAppX_gr,dApp_gr,dAppO_one])|apply gC_drawW|((first|apply gI_dec|apply gG_dec|apply gPG_dec|apply gI_var|apply gG_var|apply gPG_var)<;>intro _))
   refine ⟨_,_,_,by omega,weak_to [(3,1),(0,0)] 2 h0 rfl rfl rfl rfl,j+1,rfl,hlt,?_,?_⟩
   ·simp[renF,vren,vrenL,aget_cons]
   ·rw[← ew];simp[renH,aget_cons,renO,iD,vren,vrenL]
  ·have:j=M.length:=by omega
   subst this
   rw[List.take_length]
   repeat' (first|(simp (disch:=first|omega|assumption|exact bd (by with_unfolding_all rfl)|exact Or.inl rfl|exact Or.inl trivial|exact okL_map _ (fun _=>rfl) _|(simp only[VVlen]<;>omega)|fail) only[VV0,VV1,VV2,VV3,VV4,VV5,VV6,VV7,VV8,VV9,mkFnV,vargs,slotsL,opdsA,Nat.reduceEqDiff,Nat.reduceLT,Nat.reduceAdd,Nat.reduceBEq,Int.reduceAdd,Int.reduceSub,Int.reduceLT,Int.reduceLE,Int.reduceEq,Int.reduceNeg,↓reduceIte,reduceCtorEq,scL,scD,expand,List.replicate,c13l0])|apply gC_drawW|((first|apply gI_dec|apply gG_dec|apply gPG_dec|apply gI_var|apply gG_var|apply gPG_var)<;>intro _))
   exact weak_fin (s:=4) (snap_grD rfl (by simp[betL])) rfl (.inl (by decide)) h0 rfl
end
section
variable (w:World) (n:Nat)
theorem rbetween_bad (S N:List (List UInt8)) (M:List (List Int)) (hm:Mod S N M) (i num den:Int) (hi:isInt i) (hnum:isInt num) (hden:isInt den) (h:checkS S N M=0) (ha:¬ argB S.length i num den):
 VSpec (EN w (n+4)) 13 [tableV 3 3 3 1 S N M,iN i,iN num,iN den] (.tup [.sl 3 0 [],iN 2]) ⟨[],0,0⟩:=by
 refine vspec_g rfl rfl (fun _ _=>rfl) (Nat.le_of_ble_eq_true rfl) (oldVals w) retOK_fin rfl fun C hC h0=>?_
 have hc:=rcheck_p w n 3 3 3 1 S N M hm
 rw[h] at hc
 have hs:=hm.s
 unfold isInt at hi hnum hden
 unfold argB at ha
 repeat' (first|(simp (disch:=first|omega|assumption|exact bd (by with_unfolding_all rfl)|exact Or.inl rfl|exact Or.inl trivial|exact okL_map _ (fun _=>rfl) _|(simp only[VVlen]<;>omega)|fail) only[VV0,VV1,VV2,VV3,VV4,VV5,VV6,VV7,VV8,VV9,mkFnV,vargs,slotsL,opdsA,Nat.reduceEqDiff,Nat.reduceLT,Nat.reduceAdd,Nat.reduceBEq,Int.reduceAdd,Int.reduceSub,Int.reduceLT,Int.reduceLE,Int.reduceEq,Int.reduceNeg,↓reduceIte,reduceCtorEq,scL,scD,expand,List.replicate,c13])|apply gC_drawW|((first|apply gI_dec|apply gG_dec|apply gPG_dec|apply gI_var|apply gG_var|apply gPG_var)<;>intro _))
 refine callV_flat (by rw[hC];exact hc.flat rfl rfl) ?_
 repeat' (first|(simp (disch:=first|omega|assumption|exact bd (by with_unfolding_all rfl)|exact Or.inl rfl|exact Or.inl trivial|exact okL_map _ (fun _=>rfl) _|(simp only[VVlen]<;>omega)|fail) only[VV0,VV1,VV2,VV3,VV4,VV5,VV6,VV7,VV8,VV9,mkFnV,vargs,slotsL,opdsA,Nat.reduceEqDiff,Nat.reduceLT,Nat.reduceAdd,Nat.reduceBEq,Int.reduceAdd,Int.reduceSub,Int.reduceLT,Int.reduceLE,Int.reduceEq,Int.reduceNeg,↓reduceIte,reduceCtorEq,scL,scD,expand,List.replicate])|apply gC_drawW|((first|apply gI_dec|apply gG_dec|apply gPG_dec|apply gI_var|apply gG_var|apply gPG_var)<;>intro _))
 all_goals try (exfalso;omega)
 all_goals exact weak_finNil h0 rfl
theorem between_inv (S N:List (List UInt8)) (M:List (List Int)) (hm:Mod S N M) (i num den:Int) (h:checkS S N M ≠ 0):
 VSpec (EN w (n+4)) 12 [tableV 3 3 3 1 S N M,iN i,iN num,iN den] (.tup [.sl 3 0 [],iN (checkS S N M)]) ⟨[],0,0⟩:=by
 refine vspec_g rfl rfl (fun _ _=>rfl) (Nat.le_of_ble_eq_true rfl) (oldVals w) retOK_fin rfl fun C hC h0=>?_
 have hc:=check_p w n 3 3 3 1 S N M hm
 generalize checkS S N M=e at*
 repeat' (first|(simp (disch:=first|omega|assumption|exact bd (by with_unfolding_all rfl)|exact Or.inl rfl|exact Or.inl trivial|exact okL_map _ (fun _=>rfl) _|(simp only[VVlen]<;>omega)|fail) only[VV0,VV1,VV2,VV3,VV4,VV5,VV6,VV7,VV8,VV9,mkFnV,vargs,slotsL,opdsA,Nat.reduceEqDiff,Nat.reduceLT,Nat.reduceAdd,Nat.reduceBEq,Int.reduceAdd,Int.reduceSub,Int.reduceLT,Int.reduceLE,Int.reduceEq,Int.reduceNeg,↓reduceIte,reduceCtorEq,scL,scD,expand,List.replicate,c12])|apply gC_drawW|((first|apply gI_dec|apply gG_dec|apply gPG_dec|apply gI_var|apply gG_var|apply gPG_var)<;>intro _))
 refine callV_flat (by rw[hC];exact hc.flat rfl rfl) ?_
 repeat' (first|(simp (disch:=first|omega|assumption|exact bd (by with_unfolding_all rfl)|exact Or.inl rfl|exact Or.inl trivial|exact okL_map _ (fun _=>rfl) _|(simp only[VVlen]<;>omega)|fail) only[VV0,VV1,VV2,VV3,VV4,VV5,VV6,VV7,VV8,VV9,mkFnV,vargs,slotsL,opdsA,Nat.reduceEqDiff,Nat.reduceLT,Nat.reduceAdd,Nat.reduceBEq,Int.reduceAdd,Int.reduceSub,Int.reduceLT,Int.reduceLE,Int.reduceEq,Int.reduceNeg,↓reduceIte,reduceCtorEq,scL,scD,expand,List.replicate])|apply gC_drawW|((first|apply gI_dec|apply gG_dec|apply gPG_dec|apply gI_var|apply gG_var|apply gPG_var)<;>intro _))
 all_goals try (exfalso;omega)
 all_goals exact weak_finNil h0 rfl
theorem rbetween_inv (S N:List (List UInt8)) (M:List (List Int)) (hm:Mod S N M) (i num den:Int) (h:checkS S N M ≠ 0):
 VSpec (EN w (n+4)) 13 [tableV 3 3 3 1 S N M,iN i,iN num,iN den] (.tup [.sl 3 0 [],iN (checkS S N M)]) ⟨[],0,0⟩:=by
 refine vspec_g rfl rfl (fun _ _=>rfl) (Nat.le_of_ble_eq_true rfl) (oldVals w) retOK_fin rfl fun C hC h0=>?_
 have hc:=rcheck_p w n 3 3 3 1 S N M hm
 generalize checkS S N M=e at*
 repeat' (first|(simp (disch:=first|omega|assumption|exact bd (by with_unfolding_all rfl)|exact Or.inl rfl|exact Or.inl trivial|exact okL_map _ (fun _=>rfl) _|(simp only[VVlen]<;>omega)|fail) only[VV0,VV1,VV2,VV3,VV4,VV5,VV6,VV7,VV8,VV9,mkFnV,vargs,slotsL,opdsA,Nat.reduceEqDiff,Nat.reduceLT,Nat.reduceAdd,Nat.reduceBEq,Int.reduceAdd,Int.reduceSub,Int.reduceLT,Int.reduceLE,Int.reduceEq,Int.reduceNeg,↓reduceIte,reduceCtorEq,scL,scD,expand,List.replicate,c13])|apply gC_drawW|((first|apply gI_dec|apply gG_dec|apply gPG_dec|apply gI_var|apply gG_var|apply gPG_var)<;>intro _))
 refine callV_flat (by rw[hC];exact hc.flat rfl rfl) ?_
 repeat' (first|(simp (disch:=first|omega|assumption|exact bd (by with_unfolding_all rfl)|exact Or.inl rfl|exact Or.inl trivial|exact okL_map _ (fun _=>rfl) _|(simp only[VVlen]<;>omega)|fail) only[VV0,VV1,VV2,VV3,VV4,VV5,VV6,VV7,VV8,VV9,mkFnV,vargs,slotsL,opdsA,Nat.reduceEqDiff,Nat.reduceLT,Nat.reduceAdd,Nat.reduceBEq,Int.reduceAdd,Int.reduceSub,Int.reduceLT,Int.reduceLE,Int.reduceEq,Int.reduceNeg,↓reduceIte,reduceCtorEq,scL,scD,expand,List.replicate])|apply gC_drawW|((first|apply gI_dec|apply gG_dec|apply gPG_dec|apply gI_var|apply gG_var|apply gPG_var)<;>intro _))
 all_goals try (exfalso;omega)
 all_goals exact weak_finNil h0 rfl
theorem insert_inv (S N:List (List UInt8)) (M:List (List Int)) (hm:Mod S N M) (i num den:Int) (x:List UInt8) (h:checkS S N M ≠ 0):
 VSpec (EN w (n+5)) 14 [tableV 3 3 3 1 S N M,iN i,strV x,iN num,iN den] (.tup [noT,iN (checkS S N M)]) ⟨[],0,0⟩:=by
 refine vspec_flat rfl rfl (fun _ _=>rfl) (Nat.le_of_ble_eq_true rfl) (oldVals w) rfl fun C hC h0=>?_
 have hb:=between_inv w n S N M hm i num den h
 generalize checkS S N M=e at*
 repeat' (first|(simp (disch:=first|omega|assumption|exact bd (by with_unfolding_all rfl)|exact Or.inl rfl|exact Or.inl trivial|exact okL_map _ (fun _=>rfl) _|(simp only[VVlen]<;>omega)|fail) only[VV0,VV1,VV2,VV3,VV4,VV5,VV6,VV7,VV8,VV9,mkFnV,vargs,slotsL,opdsA,Nat.reduceEqDiff,Nat.reduceLT,Nat.reduceAdd,Nat.reduceBEq,Int.reduceAdd,Int.reduceSub,Int.reduceLT,Int.reduceLE,Int.reduceEq,Int.reduceNeg,↓reduceIte,reduceCtorEq,scL,scD,expand,List.replicate,c14])|apply gC_drawW|((first|apply gI_dec|apply gG_dec|apply gPG_dec|apply gI_var|apply gG_var|apply gPG_var)<;>intro _))
 refine callV_fin (by rw[hC];exact hb) rfl rfl (fun _=>rfl) ?_
 repeat' (first|(simp (disch:=first|omega|assumption|exact bd (by with_unfolding_all rfl)|exact Or.inl rfl|exact Or.inl trivial|exact okL_map _ (fun _=>rfl) _|(simp only[VVlen]<;>omega)|fail) only[VV0,VV1,VV2,VV3,VV4,VV5,VV6,VV7,VV8,VV9,mkFnV,vargs,slotsL,opdsA,Nat.reduceEqDiff,Nat.reduceLT,Nat.reduceAdd,Nat.reduceBEq,Int.reduceAdd,Int.reduceSub,Int.reduceLT,Int.reduceLE,Int.reduceEq,Int.reduceNeg,↓reduceIte,reduceCtorEq,scL,scD,expand,List.replicate])|apply gC_drawW|((first|apply gI_dec|apply gG_dec|apply gPG_dec|apply gI_var|apply gG_var|apply gPG_var)<;>intro _))
 all_goals try (exfalso;omega)
 exact weak_flat rfl h0 rfl
end
section
variable (w:World) (n:Nat)
theorem next_inv (S N:List (List UInt8)) (M:List (List Int)) (hm:Mod S N M) (x:List UInt8) (h:checkS S N M ≠ 0):
 VSpec (EN w (n+5)) 16 [tableV 3 3 3 1 S N M,strV x] (.tup [noT,iN (checkS S N M)]) ⟨[],0,0⟩:=by
 refine vspec_flat rfl rfl (fun _ _=>rfl) (Nat.le_of_ble_eq_true rfl) (oldVals w) rfl fun C hC h0=>?_
 have hc:=check_p w (n+1) 3 3 3 1 S N M hm
 generalize checkS S N M=e at*
 repeat' (first|(simp (disch:=first|omega|assumption|exact bd (by with_unfolding_all rfl)|exact Or.inl rfl|exact Or.inl trivial|exact okL_map _ (fun _=>rfl) _|(simp only[VVlen]<;>omega)|fail) only[VV0,VV1,VV2,VV3,VV4,VV5,VV6,VV7,VV8,VV9,mkFnV,vargs,slotsL,opdsA,Nat.reduceEqDiff,Nat.reduceLT,Nat.reduceAdd,Nat.reduceBEq,Int.reduceAdd,Int.reduceSub,Int.reduceLT,Int.reduceLE,Int.reduceEq,Int.reduceNeg,↓reduceIte,reduceCtorEq,scL,scD,expand,List.replicate,c16])|apply gC_drawW|((first|apply gI_dec|apply gG_dec|apply gPG_dec|apply gI_var|apply gG_var|apply gPG_var)<;>intro _))
 refine callV_flat (by rw[hC];exact hc.flat rfl rfl) ?_
 repeat' (first|(simp (disch:=first|omega|assumption|exact bd (by with_unfolding_all rfl)|exact Or.inl rfl|exact Or.inl trivial|exact okL_map _ (fun _=>rfl) _|(simp only[VVlen]<;>omega)|fail) only[VV0,VV1,VV2,VV3,VV4,VV5,VV6,VV7,VV8,VV9,mkFnV,vargs,slotsL,opdsA,Nat.reduceEqDiff,Nat.reduceLT,Nat.reduceAdd,Nat.reduceBEq,Int.reduceAdd,Int.reduceSub,Int.reduceLT,Int.reduceLE,Int.reduceEq,Int.reduceNeg,↓reduceIte,reduceCtorEq,scL,scD,expand,List.replicate])|apply gC_drawW|((first|apply gI_dec|apply gG_dec|apply gPG_dec|apply gI_var|apply gG_var|apply gPG_var)<;>intro _))
 all_goals try (exfalso;omega)
 all_goals exact weak_flat rfl h0 rfl
theorem rnext_inv (S N:List (List UInt8)) (M:List (List Int)) (hm:Mod S N M) (x:List UInt8) (h:checkS S N M ≠ 0):
 VSpec (EN w (n+5)) 17 [tableV 3 3 3 1 S N M,strV x] (.tup [noT,iN (checkS S N M)]) ⟨[],0,0⟩:=by
 refine vspec_flat rfl rfl (fun _ _=>rfl) (Nat.le_of_ble_eq_true rfl) (oldVals w) rfl fun C hC h0=>?_
 have hc:=rcheck_p w (n+1) 3 3 3 1 S N M hm
 generalize checkS S N M=e at*
 repeat' (first|(simp (disch:=first|omega|assumption|exact bd (by with_unfolding_all rfl)|exact Or.inl rfl|exact Or.inl trivial|exact okL_map _ (fun _=>rfl) _|(simp only[VVlen]<;>omega)|fail) only[VV0,VV1,VV2,VV3,VV4,VV5,VV6,VV7,VV8,VV9,mkFnV,vargs,slotsL,opdsA,Nat.reduceEqDiff,Nat.reduceLT,Nat.reduceAdd,Nat.reduceBEq,Int.reduceAdd,Int.reduceSub,Int.reduceLT,Int.reduceLE,Int.reduceEq,Int.reduceNeg,↓reduceIte,reduceCtorEq,scL,scD,expand,List.replicate,c17])|apply gC_drawW|((first|apply gI_dec|apply gG_dec|apply gPG_dec|apply gI_var|apply gG_var|apply gPG_var)<;>intro _))
 refine callV_flat (by rw[hC];exact hc.flat rfl rfl) ?_
 repeat' (first|(simp (disch:=first|omega|assumption|exact bd (by with_unfolding_all rfl)|exact Or.inl rfl|exact Or.inl trivial|exact okL_map _ (fun _=>rfl) _|(simp only[VVlen]<;>omega)|fail) only[VV0,VV1,VV2,VV3,VV4,VV5,VV6,VV7,VV8,VV9,mkFnV,vargs,slotsL,opdsA,Nat.reduceEqDiff,Nat.reduceLT,Nat.reduceAdd,Nat.reduceBEq,Int.reduceAdd,Int.reduceSub,Int.reduceLT,Int.reduceLE,Int.reduceEq,Int.reduceNeg,↓reduceIte,reduceCtorEq,scL,scD,expand,List.replicate])|apply gC_drawW|((first|apply gI_dec|apply gG_dec|apply gPG_dec|apply gI_var|apply gG_var|apply gPG_var)<;>intro _))
 all_goals try (exfalso;omega)
 all_goals exact weak_flat rfl h0 rfl
theorem snap_inv (S N:List (List UInt8)) (M:List (List Int)) (hm:Mod S N M) (step:Int) (h:checkS S N M ≠ 0):
 VSpec (EN w (n+4)) 18 [tableV 3 3 3 1 S N M,iN step] (.tup [noT,iN (checkS S N M)]) ⟨[],0,0⟩:=by
 refine vspec_flat rfl rfl (fun _ _=>rfl) (Nat.le_of_ble_eq_true rfl) (oldVals w) rfl fun C hC h0=>?_
 have hc:=check_p w n 3 3 3 1 S N M hm
 generalize checkS S N M=e at*
 repeat' (first|(simp (disch:=first|omega|assumption|exact bd (by with_unfolding_all rfl)|exact Or.inl rfl|exact Or.inl trivial|exact okL_map _ (fun _=>rfl) _|(simp only[VVlen]<;>omega)|fail) only[VV0,VV1,VV2,VV3,VV4,VV5,VV6,VV7,VV8,VV9,mkFnV,vargs,slotsL,opdsA,Nat.reduceEqDiff,Nat.reduceLT,Nat.reduceAdd,Nat.reduceBEq,Int.reduceAdd,Int.reduceSub,Int.reduceLT,Int.reduceLE,Int.reduceEq,Int.reduceNeg,↓reduceIte,reduceCtorEq,scL,scD,expand,List.replicate,c18])|apply gC_drawW|((first|apply gI_dec|apply gG_dec|apply gPG_dec|apply gI_var|apply gG_var|apply gPG_var)<;>intro _))
 refine callV_flat (by rw[hC];exact hc.flat rfl rfl) ?_
 repeat' (first|(simp (disch:=first|omega|assumption|exact bd (by with_unfolding_all rfl)|exact Or.inl rfl|exact Or.inl trivial|exact okL_map _ (fun _=>rfl) _|(simp only[VVlen]<;>omega)|fail) only[VV0,VV1,VV2,VV3,VV4,VV5,VV6,VV7,VV8,VV9,mkFnV,vargs,slotsL,opdsA,Nat.reduceEqDiff,Nat.reduceLT,Nat.reduceAdd,Nat.reduceBEq,Int.reduceAdd,Int.reduceSub,Int.reduceLT,Int.reduceLE,Int.reduceEq,Int.reduceNeg,↓reduceIte,reduceCtorEq,scL,scD,expand,List.replicate])|apply gC_drawW|((first|apply gI_dec|apply gG_dec|apply gPG_dec|apply gI_var|apply gG_var|apply gPG_var)<;>intro _))
 all_goals try (exfalso;omega)
 all_goals exact weak_flat rfl h0 rfl
theorem rsnap_inv (S N:List (List UInt8)) (M:List (List Int)) (hm:Mod S N M) (step:Int) (h:checkS S N M ≠ 0):
 VSpec (EN w (n+4)) 19 [tableV 3 3 3 1 S N M,iN step] (.tup [noT,iN (checkS S N M)]) ⟨[],0,0⟩:=by
 refine vspec_flat rfl rfl (fun _ _=>rfl) (Nat.le_of_ble_eq_true rfl) (oldVals w) rfl fun C hC h0=>?_
 have hc:=rcheck_p w n 3 3 3 1 S N M hm
 generalize checkS S N M=e at*
 repeat' (first|(simp (disch:=first|omega|assumption|exact bd (by with_unfolding_all rfl)|exact Or.inl rfl|exact Or.inl trivial|exact okL_map _ (fun _=>rfl) _|(simp only[VVlen]<;>omega)|fail) only[VV0,VV1,VV2,VV3,VV4,VV5,VV6,VV7,VV8,VV9,mkFnV,vargs,slotsL,opdsA,Nat.reduceEqDiff,Nat.reduceLT,Nat.reduceAdd,Nat.reduceBEq,Int.reduceAdd,Int.reduceSub,Int.reduceLT,Int.reduceLE,Int.reduceEq,Int.reduceNeg,↓reduceIte,reduceCtorEq,scL,scD,expand,List.replicate,c19])|apply gC_drawW|((first|apply gI_dec|apply gG_dec|apply gPG_dec|apply gI_var|apply gG_var|apply gPG_var)<;>intro _))
 refine callV_flat (by rw[hC];exact hc.flat rfl rfl) ?_
 repeat' (first|(simp (disch:=first|omega|assumption|exact bd (by with_unfolding_all rfl)|exact Or.inl rfl|exact Or.inl trivial|exact okL_map _ (fun _=>rfl) _|(simp only[VVlen]<;>omega)|fail) only[VV0,VV1,VV2,VV3,VV4,VV5,VV6,VV7,VV8,VV9,mkFnV,vargs,slotsL,opdsA,Nat.reduceEqDiff,Nat.reduceLT,Nat.reduceAdd,Nat.reduceBEq,Int.reduceAdd,Int.reduceSub,Int.reduceLT,Int.reduceLE,Int.reduceEq,Int.reduceNeg,↓reduceIte,reduceCtorEq,scL,scD,expand,List.replicate])|apply gC_drawW|((first|apply gI_dec|apply gG_dec|apply gPG_dec|apply gI_var|apply gG_var|apply gPG_var)<;>intro _))
 all_goals try (exfalso;omega)
 all_goals exact weak_flat rfl h0 rfl
theorem rinsert_inv (S N:List (List UInt8)) (M:List (List Int)) (hm:Mod S N M) (i num den:Int) (x:List UInt8) (h:checkS S N M ≠ 0):
 VSpec (EN w (n+5)) 15 [tableV 3 3 3 1 S N M,iN i,strV x,iN num,iN den] (.tup [noT,iN (checkS S N M)]) ⟨[],0,0⟩:=by
 refine vspec_flat rfl rfl (fun _ _=>rfl) (Nat.le_of_ble_eq_true rfl) (oldVals w) rfl fun C hC h0=>?_
 have hb:=rbetween_inv w n S N M hm i num den h
 generalize checkS S N M=e at*
 repeat' (first|(simp (disch:=first|omega|assumption|exact bd (by with_unfolding_all rfl)|exact Or.inl rfl|exact Or.inl trivial|exact okL_map _ (fun _=>rfl) _|(simp only[VVlen]<;>omega)|fail) only[VV0,VV1,VV2,VV3,VV4,VV5,VV6,VV7,VV8,VV9,mkFnV,vargs,slotsL,opdsA,Nat.reduceEqDiff,Nat.reduceLT,Nat.reduceAdd,Nat.reduceBEq,Int.reduceAdd,Int.reduceSub,Int.reduceLT,Int.reduceLE,Int.reduceEq,Int.reduceNeg,↓reduceIte,reduceCtorEq,scL,scD,expand,List.replicate,c15])|apply gC_drawW|((first|apply gI_dec|apply gG_dec|apply gPG_dec|apply gI_var|apply gG_var|apply gPG_var)<;>intro _))
 refine callV_fin (by rw[hC];exact hb) rfl rfl (fun _=>rfl) ?_
 repeat' (first|(simp (disch:=first|omega|assumption|exact bd (by with_unfolding_all rfl)|exact Or.inl rfl|exact Or.inl trivial|exact okL_map _ (fun _=>rfl) _|(simp only[VVlen]<;>omega)|fail) only[VV0,VV1,VV2,VV3,VV4,VV5,VV6,VV7,VV8,VV9,mkFnV,vargs,slotsL,opdsA,Nat.reduceEqDiff,Nat.reduceLT,Nat.reduceAdd,Nat.reduceBEq,Int.reduceAdd,Int.reduceSub,Int.reduceLT,Int.reduceLE,Int.reduceEq,Int.reduceNeg,↓reduceIte,reduceCtorEq,scL,scD,expand,List.replicate])|apply gC_drawW|((first|apply gI_dec|apply gG_dec|apply gPG_dec|apply gI_var|apply gG_var|apply gPG_var)<;>intro _))
 all_goals try (exfalso;omega)
 exact weak_flat rfl h0 rfl
theorem rinsert_bad (S N:List (List UInt8)) (M:List (List Int)) (hm:Mod S N M) (i num den:Int) (x:List UInt8) (hi:isInt i) (hnum:isInt num) (hden:isInt den) (h:checkS S N M=0) (ha:¬ argB S.length i num den):
 VSpec (EN w (n+5)) 15 [tableV 3 3 3 1 S N M,iN i,strV x,iN num,iN den] (.tup [noT,iN 2]) ⟨[],0,0⟩:=by
 refine vspec_flat rfl rfl (fun _ _=>rfl) (Nat.le_of_ble_eq_true rfl) (oldVals w) rfl fun C hC h0=>?_
 have hb:=rbetween_bad w n S N M hm i num den hi hnum hden h ha
 repeat' (first|(simp (disch:=first|omega|assumption|exact bd (by with_unfolding_all rfl)|exact Or.inl rfl|exact Or.inl trivial|exact okL_map _ (fun _=>rfl) _|(simp only[VVlen]<;>omega)|fail) only[VV0,VV1,VV2,VV3,VV4,VV5,VV6,VV7,VV8,VV9,mkFnV,vargs,slotsL,opdsA,Nat.reduceEqDiff,Nat.reduceLT,Nat.reduceAdd,Nat.reduceBEq,Int.reduceAdd,Int.reduceSub,Int.reduceLT,Int.reduceLE,Int.reduceEq,Int.reduceNeg,↓reduceIte,reduceCtorEq,scL,scD,expand,List.replicate,c15])|apply gC_drawW|((first|apply gI_dec|apply gG_dec|apply gPG_dec|apply gI_var|apply gG_var|apply gPG_var)<;>intro _))
 refine callV_fin (by rw[hC];exact hb) rfl rfl (fun _=>rfl) ?_
 repeat' (first|(simp (disch:=first|omega|assumption|exact bd (by with_unfolding_all rfl)|exact Or.inl rfl|exact Or.inl trivial|exact okL_map _ (fun _=>rfl) _|(simp only[VVlen]<;>omega)|fail) only[VV0,VV1,VV2,VV3,VV4,VV5,VV6,VV7,VV8,VV9,mkFnV,vargs,slotsL,opdsA,Nat.reduceEqDiff,Nat.reduceLT,Nat.reduceAdd,Nat.reduceBEq,Int.reduceAdd,Int.reduceSub,Int.reduceLT,Int.reduceLE,Int.reduceEq,Int.reduceNeg,↓reduceIte,reduceCtorEq,scL,scD,expand,List.replicate])|apply gC_drawW|((first|apply gI_dec|apply gG_dec|apply gPG_dec|apply gI_var|apply gG_var|apply gPG_var)<;>intro _))
 exact weak_flat rfl h0 rfl
theorem rinsert_e (S N:List (List UInt8)) (M:List (List Int)) (hm:Mod S N M) (i:Nat) (num den:Int) (x:List UInt8) (hx:x.length≤1000) (h:Val S N M) (ha:argB S.length i num den) (hf:freshF S x ≠ 0):
 VSpec (EN w (n+5)) 15 [tableV 3 3 3 1 S N M,iN i,strV x,iN num,iN den] (.tup [noT,iN (freshF S x)]) ⟨[],0,0⟩:=by
 refine vspec_flat rfl rfl (fun _ _=>rfl) (Nat.le_of_ble_eq_true rfl) (oldVals w) rfl fun C hC h0=>?_
 have hb:=rbetween_p w n S N M hm i num den h ha
 have hfr:=rfresh_p w (n+2) 3 3 3 1 S N M x (by have:=h.s;omega) hx
 generalize freshF S x=e at*
 repeat' (first|(simp (disch:=first|omega|assumption|exact bd (by with_unfolding_all rfl)|exact Or.inl rfl|exact Or.inl trivial|exact okL_map _ (fun _=>rfl) _|(simp only[VVlen]<;>omega)|fail) only[VV0,VV1,VV2,VV3,VV4,VV5,VV6,VV7,VV8,VV9,mkFnV,vargs,slotsL,opdsA,Nat.reduceEqDiff,Nat.reduceLT,Nat.reduceAdd,Nat.reduceBEq,Int.reduceAdd,Int.reduceSub,Int.reduceLT,Int.reduceLE,Int.reduceEq,Int.reduceNeg,↓reduceIte,reduceCtorEq,scL,scD,expand,List.replicate,c15])|apply gC_drawW|((first|apply gI_dec|apply gG_dec|apply gPG_dec|apply gI_var|apply gG_var|apply gPG_var)<;>intro _))
 refine callV_fin (by rw[hC];exact hb) rfl rfl (fun _=>rfl) ?_
 repeat' (first|(simp (disch:=first|omega|assumption|exact bd (by with_unfolding_all rfl)|exact Or.inl rfl|exact Or.inl trivial|exact okL_map _ (fun _=>rfl) _|(simp only[VVlen]<;>omega)|fail) only[VV0,VV1,VV2,VV3,VV4,VV5,VV6,VV7,VV8,VV9,mkFnV,vargs,slotsL,opdsA,Nat.reduceEqDiff,Nat.reduceLT,Nat.reduceAdd,Nat.reduceBEq,Int.reduceAdd,Int.reduceSub,Int.reduceLT,Int.reduceLE,Int.reduceEq,Int.reduceNeg,↓reduceIte,reduceCtorEq,scL,scD,expand,List.replicate])|apply gC_drawW|((first|apply gI_dec|apply gG_dec|apply gPG_dec|apply gI_var|apply gG_var|apply gPG_var)<;>intro _))
 refine callV_flat (by rw[hC];exact hfr.flat rfl rfl) ?_
 repeat' (first|(simp (disch:=first|omega|assumption|exact bd (by with_unfolding_all rfl)|exact Or.inl rfl|exact Or.inl trivial|exact okL_map _ (fun _=>rfl) _|(simp only[VVlen]<;>omega)|fail) only[VV0,VV1,VV2,VV3,VV4,VV5,VV6,VV7,VV8,VV9,mkFnV,vargs,slotsL,opdsA,Nat.reduceEqDiff,Nat.reduceLT,Nat.reduceAdd,Nat.reduceBEq,Int.reduceAdd,Int.reduceSub,Int.reduceLT,Int.reduceLE,Int.reduceEq,Int.reduceNeg,↓reduceIte,reduceCtorEq,scL,scD,expand,List.replicate])|apply gC_drawW|((first|apply gI_dec|apply gG_dec|apply gPG_dec|apply gI_var|apply gG_var|apply gPG_var)<;>intro _))
 all_goals try (exfalso;omega)
 exact weak_flat rfl h0 rfl
theorem rnext_short (S N:List (List UInt8)) (M:List (List Int)) (hm:Mod S N M) (x:List UInt8) (h:Val S N M) (hs:S.length<2):
 VSpec (EN w (n+5)) 17 [tableV 3 3 3 1 S N M,strV x] (.tup [noT,iN 22]) ⟨[],0,0⟩:=by
 refine vspec_flat rfl rfl (fun _ _=>rfl) (Nat.le_of_ble_eq_true rfl) (oldVals w) rfl fun C hC h0=>?_
 have hc:=rcheck_p w (n+1) 3 3 3 1 S N M hm
 rw[(val_iff S N M).2 h] at hc
 repeat' (first|(simp (disch:=first|omega|assumption|exact bd (by with_unfolding_all rfl)|exact Or.inl rfl|exact Or.inl trivial|exact okL_map _ (fun _=>rfl) _|(simp only[VVlen]<;>omega)|fail) only[VV0,VV1,VV2,VV3,VV4,VV5,VV6,VV7,VV8,VV9,mkFnV,vargs,slotsL,opdsA,Nat.reduceEqDiff,Nat.reduceLT,Nat.reduceAdd,Nat.reduceBEq,Int.reduceAdd,Int.reduceSub,Int.reduceLT,Int.reduceLE,Int.reduceEq,Int.reduceNeg,↓reduceIte,reduceCtorEq,scL,scD,expand,List.replicate,c17])|apply gC_drawW|((first|apply gI_dec|apply gG_dec|apply gPG_dec|apply gI_var|apply gG_var|apply gPG_var)<;>intro _))
 refine callV_flat (by rw[hC];exact hc.flat rfl rfl) ?_
 repeat' (first|(simp (disch:=first|omega|assumption|exact bd (by with_unfolding_all rfl)|exact Or.inl rfl|exact Or.inl trivial|exact okL_map _ (fun _=>rfl) _|(simp only[VVlen]<;>omega)|fail) only[VV0,VV1,VV2,VV3,VV4,VV5,VV6,VV7,VV8,VV9,mkFnV,vargs,slotsL,opdsA,Nat.reduceEqDiff,Nat.reduceLT,Nat.reduceAdd,Nat.reduceBEq,Int.reduceAdd,Int.reduceSub,Int.reduceLT,Int.reduceLE,Int.reduceEq,Int.reduceNeg,↓reduceIte,reduceCtorEq,scL,scD,expand,List.replicate])|apply gC_drawW|((first|apply gI_dec|apply gG_dec|apply gPG_dec|apply gI_var|apply gG_var|apply gPG_var)<;>intro _))
 all_goals try (exfalso;omega)
 exact weak_flat rfl h0 rfl
theorem rnext_e (S N:List (List UInt8)) (M:List (List Int)) (hm:Mod S N M) (x:List UInt8) (hx:x.length≤1000) (h:Val S N M) (hs:¬ S.length<2) (hf:freshF S x ≠ 0):
 VSpec (EN w (n+5)) 17 [tableV 3 3 3 1 S N M,strV x] (.tup [noT,iN (freshF S x)]) ⟨[],0,0⟩:=by
 refine vspec_flat rfl rfl (fun _ _=>rfl) (Nat.le_of_ble_eq_true rfl) (oldVals w) rfl fun C hC h0=>?_
 have hc:=rcheck_p w (n+1) 3 3 3 1 S N M hm
 rw[(val_iff S N M).2 h] at hc
 have hS:=h.s
 have hfr:=rfresh_p w (n+2) 3 3 3 1 S N M x (by omega) hx
 generalize freshF S x=e at*
 repeat' (first|(simp (disch:=first|omega|assumption|exact bd (by with_unfolding_all rfl)|exact Or.inl rfl|exact Or.inl trivial|exact okL_map _ (fun _=>rfl) _|(simp only[VVlen]<;>omega)|fail) only[VV0,VV1,VV2,VV3,VV4,VV5,VV6,VV7,VV8,VV9,mkFnV,vargs,slotsL,opdsA,Nat.reduceEqDiff,Nat.reduceLT,Nat.reduceAdd,Nat.reduceBEq,Int.reduceAdd,Int.reduceSub,Int.reduceLT,Int.reduceLE,Int.reduceEq,Int.reduceNeg,↓reduceIte,reduceCtorEq,scL,scD,expand,List.replicate,c17])|apply gC_drawW|((first|apply gI_dec|apply gG_dec|apply gPG_dec|apply gI_var|apply gG_var|apply gPG_var)<;>intro _))
 refine callV_flat (by rw[hC];exact hc.flat rfl rfl) ?_
 repeat' (first|(simp (disch:=first|omega|assumption|exact bd (by with_unfolding_all rfl)|exact Or.inl rfl|exact Or.inl trivial|exact okL_map _ (fun _=>rfl) _|(simp only[VVlen]<;>omega)|fail) only[VV0,VV1,VV2,VV3,VV4,VV5,VV6,VV7,VV8,VV9,mkFnV,vargs,slotsL,opdsA,Nat.reduceEqDiff,Nat.reduceLT,Nat.reduceAdd,Nat.reduceBEq,Int.reduceAdd,Int.reduceSub,Int.reduceLT,Int.reduceLE,Int.reduceEq,Int.reduceNeg,↓reduceIte,reduceCtorEq,scL,scD,expand,List.replicate])|apply gC_drawW|((first|apply gI_dec|apply gG_dec|apply gPG_dec|apply gI_var|apply gG_var|apply gPG_var)<;>intro _))
 all_goals try (exfalso;omega)
 refine callV_flat (by rw[hC];exact hfr.flat rfl rfl) ?_
 repeat' (first|(simp (disch:=first|omega|assumption|exact bd (by with_unfolding_all rfl)|exact Or.inl rfl|exact Or.inl trivial|exact okL_map _ (fun _=>rfl) _|(simp only[VVlen]<;>omega)|fail) only[VV0,VV1,VV2,VV3,VV4,VV5,VV6,VV7,VV8,VV9,mkFnV,vargs,slotsL,opdsA,Nat.reduceEqDiff,Nat.reduceLT,Nat.reduceAdd,Nat.reduceBEq,Int.reduceAdd,Int.reduceSub,Int.reduceLT,Int.reduceLE,Int.reduceEq,Int.reduceNeg,↓reduceIte,reduceCtorEq,scL,scD,expand,List.replicate])|apply gC_drawW|((first|apply gI_dec|apply gG_dec|apply gPG_dec|apply gI_var|apply gG_var|apply gPG_var)<;>intro _))
 all_goals try (exfalso;omega)
 exact weak_flat rfl h0 rfl
theorem rsnap_bad (S N:List (List UInt8)) (M:List (List Int)) (hm:Mod S N M) (step:Int) (hst:isInt step) (h:Val S N M) (ha:¬ (1≤step∧step≤10000)):
 VSpec (EN w (n+4)) 19 [tableV 3 3 3 1 S N M,iN step] (.tup [noT,iN 2]) ⟨[],0,0⟩:=by
 refine vspec_flat rfl rfl (fun _ _=>rfl) (Nat.le_of_ble_eq_true rfl) (oldVals w) rfl fun C hC h0=>?_
 have hc:=rcheck_p w n 3 3 3 1 S N M hm
 rw[(val_iff S N M).2 h] at hc
 unfold isInt at hst
 repeat' (first|(simp (disch:=first|omega|assumption|exact bd (by with_unfolding_all rfl)|exact Or.inl rfl|exact Or.inl trivial|exact okL_map _ (fun _=>rfl) _|(simp only[VVlen]<;>omega)|fail) only[VV0,VV1,VV2,VV3,VV4,VV5,VV6,VV7,VV8,VV9,mkFnV,vargs,slotsL,opdsA,Nat.reduceEqDiff,Nat.reduceLT,Nat.reduceAdd,Nat.reduceBEq,Int.reduceAdd,Int.reduceSub,Int.reduceLT,Int.reduceLE,Int.reduceEq,Int.reduceNeg,↓reduceIte,reduceCtorEq,scL,scD,expand,List.replicate,c19])|apply gC_drawW|((first|apply gI_dec|apply gG_dec|apply gPG_dec|apply gI_var|apply gG_var|apply gPG_var)<;>intro _))
 refine callV_flat (by rw[hC];exact hc.flat rfl rfl) ?_
 repeat' (first|(simp (disch:=first|omega|assumption|exact bd (by with_unfolding_all rfl)|exact Or.inl rfl|exact Or.inl trivial|exact okL_map _ (fun _=>rfl) _|(simp only[VVlen]<;>omega)|fail) only[VV0,VV1,VV2,VV3,VV4,VV5,VV6,VV7,VV8,VV9,mkFnV,vargs,slotsL,opdsA,Nat.reduceEqDiff,Nat.reduceLT,Nat.reduceAdd,Nat.reduceBEq,Int.reduceAdd,Int.reduceSub,Int.reduceLT,Int.reduceLE,Int.reduceEq,Int.reduceNeg,↓reduceIte,reduceCtorEq,scL,scD,expand,List.replicate])|apply gC_drawW|((first|apply gI_dec|apply gG_dec|apply gPG_dec|apply gI_var|apply gG_var|apply gPG_var)<;>intro _))
 all_goals try (exfalso;omega)
 all_goals exact weak_flat rfl h0 rfl
end
def rowsQ (M:List (List Int)) (k:Nat) (B:List Int) (j:Nat):List D:=(List.range j).map fun i=>rowI 4 (withL M[i]! k B[i]!)
section
variable (w:World) (n:Nat)
theorem rput_p (S N:List (List UInt8)) (M:List (List Int)) (k q:Nat) (B:List Int) (x:List UInt8) (hat:0<k) (hB:B.length=M.length) (hr:∀ j,j<M.length→k≤M[j]!.length) (hl:∀ j,j<M.length→M[j]!.length≤1000000) (hM:M.length≤1000000) (hS:S.length≤1000000) (hN:N.length≤1000000) (hS0:0<S.length) (hN0:0<N.length) (hSa:k≤S.length):
 VSpec (EN w (n+1)) 33 [tableV 3 3 3 1 S N M,iN k,strV x,intsV q B] (tableV 4 4 4 4 (withL S k x) N (rowsW M k B)) ⟨[],0,0⟩:=by
 refine vspec_g rfl rfl (fun _ _=>rfl) (Nat.le_of_ble_eq_true rfl) (oldVals w) (retOK_nil (by simp only[Cl,ClL,and_true,true_and];trivial)) rfl fun C hC h0=>?_
 have s1:List.take (k - 0) S=S.take k:=by rw[Nat.sub_zero]
 have s3:List.take (S.length - k) (S.drop k)=S.drop k:=List.take_of_length_le (by simp)
 have l1:((S.take k).map sD).length=k:=by simp;omega
 have l2:((S.drop k).map sD).length=S.length - k:=by simp
 have ok1:okL ((S.take k).map sD)=true:=okL_map _ (fun _=>rfl) _
 have ok2:okL ((S.drop k).map sD)=true:=okL_map _ (fun _=>rfl) _
 have hk1:((S.take k).map sD++ [D.sc (.string ⟨x.toArray⟩)]).length=k+1:=by rw[List.length_append,l1];rfl
 have ok3:okL ((S.take k).map sD++ [D.sc (.string ⟨x.toArray⟩)])=true:=by simp only[okL,List.all_append,Bool.and_eq_true];exact ⟨ok1,rfl⟩
 have ew:(S.take k).map sD++ [D.sc (.string ⟨x.toArray⟩)]++(S.drop k).map sD=(withL S k x).map sD:=by simp[withL,sD]
 have en:k+1+(S.length - k)=S.length+1:=by omega
 repeat' (first|(simp (disch:=first|omega|assumption|exact bd (by with_unfolding_all rfl)|exact Or.inl rfl|exact Or.inl trivial|exact okL_map _ (fun _=>rfl) _|(simp only[VVlen]<;>omega)|fail) only[VV0,VV1,VV2,VV3,VV4,VV5,VV6,VV7,VV8,VV9,mkFnV,vargs,slotsL,opdsA,Nat.reduceEqDiff,Nat.reduceLT,Nat.reduceAdd,Nat.reduceBEq,Int.reduceAdd,Int.reduceSub,Int.reduceLT,Int.reduceLE,Int.reduceEq,Int.reduceNeg,↓reduceIte,reduceCtorEq,scL,scD,expand,List.replicate,c33,ew,en,s1,s3,vd_app,dAppY_rsl,dAppR_row,dAppX_gr,dApp_gr,dAppO_one,dAppY_gsl,dAppS_gro,dAppS_gro0])|apply gC_drawW|((first|apply gI_dec|apply gG_dec|apply gPG_dec|apply gI_var|apply gG_var|apply gPG_var)<;>intro _))
 have hnil:∀ {fr:VFr},Weak C fr ⟨[(4,.gro 9 1 false (N.map sD)),(3,.gro 9 1 false ((withL S k x).map sD)),(2,.box 25 1 [.gr 2 3 (S.length+1),.gr 2 4 N.length,nilS]),(1,.box 25 1 [nilS,nilS,nilS]),(0,tabO 3 3 3 1 S N M)],5,0⟩ fr
   ⟨[(5,.gro 39 1 false (rowsQ M k B 0)),(4,.gro 9 1 false (N.map sD)),(3,.gro 9 1 false ((withL S k x).map sD)),(2,.box 25 1 [.gr 2 3 (S.length+1),.gr 2 4 N.length,.gr 2 5 0]),(1,.box 25 1 [nilS,nilS,nilS]),(0,tabO 3 3 3 1 S N M)],6,0⟩:=fun {fr}=>
  weak_nilCell (l:= [.gr 2 3 (S.length+1),.gr 2 4 N.length,nilS]) 2 25 1 2 39 1 rfl rfl (show (2:Nat) ≠ 5 from by decide)
 refine gL_weak ((weak_to [(9,4),(7,3),(2,2),(1,1),(0,0)] 5 h0 rfl rfl rfl rfl).trans hnil) ?_
 have eS:(withL S k x).length=S.length+1:=by simp[withL];omega
 generalize withL S k x=W at*
 refine g_while (fun m fr st=>∃ j:Nat,m=M.length - j∧j≤M.length∧fr= [(1,iN k),(3,intsV q B),(4,.ptr 0 0),(8,.ptr 1 0),(9,.ptr 2 0),(10,iN j)]∧
  st=⟨[(5,.gro 39 1 false (rowsQ M k B j)),(4,.gro 9 1 false (N.map sD)),(3,.gro 9 1 false (W.map sD)),(2,.box 25 1 [.gr 2 3 (S.length+1),.gr 2 4 N.length,.gr 2 5 j]),(1,.box 25 1 [nilS,nilS,nilS]),(0,tabO 3 3 3 1 S N M)],6,0⟩) M.length ?_ ⟨_,_,.refl _ _,0,by omega,Nat.zero_le _,rfl,rfl⟩ ?_
 ·rw[hC,callP_rounds];unfold many;omega
 rintro m fr st ⟨j,rfl,hj,rfl,rfl⟩
 by_cases hlt:j<M.length
 ·have hkl:=hr j hlt
  have hxl:=hl j hlt
  have hjB:j<B.length:=by omega
  have eQ:rowsQ M k B j++ [rowI 4 (withL M[j]! k B[j]!)]=rowsQ M k B (j+1):=by
   unfold rowsQ;rw[List.range_succ,List.map_append];rfl
  have lQ:(rowsQ M k B j).length=j:=by simp[rowsQ]
  have okQ:okL (rowsQ M k B j)=true:=okL_map _ (fun _=>rfl) _
  generalize hX:M[j]! =X at*
  generalize hY:B[j]! =y at*
  have t1:List.take (k - 0) X=X.take k:=by rw[Nat.sub_zero]
  have t3:List.take (X.length - k) (X.drop k)=X.drop k:=List.take_of_length_le (by simp)
  have m1:((X.take k).map iD).length=k:=by simp;omega
  have m2:((X.drop k).map iD).length=X.length - k:=by simp
  have o1:okL ((X.take k).map iD)=true:=okL_map _ (fun _=>rfl) _
  have o2:okL ((X.drop k).map iD)=true:=okL_map _ (fun _=>rfl) _
  have m3:((X.take k).map iD++ [D.sc (.int .i64 y)]).length=k+1:=by rw[List.length_append,m1];rfl
  have o3:okL ((X.take k).map iD++ [D.sc (.int .i64 y)])=true:=by simp only[okL,List.all_append,Bool.and_eq_true];exact ⟨o1,rfl⟩
  have e3:(X.take k).map iD++ [D.sc (.int .i64 y)]++(X.drop k).map iD=(withL X k y).map iD:=by simp[withL,iD]
  have e4:k+1+(X.length - k)=X.length+1:=by omega
  have eX:(withL X k y).length=X.length+1:=by simp[withL];omega
  have eXl:((withL X k y).map iD).length=X.length+1:=by rw[List.length_map,eX]
  have eXo:okL ((withL X k y).map iD)=true:=okL_map _ (fun _=>rfl) _
  have eR:∀ Z:List Int,Z.length=X.length+1→rowI 4 Z= .sl 4 (X.length+1) (Z.map iD):=fun Z hZ=>by rw[← hZ];rfl
  rw[eR _ eX] at eQ
  generalize withL X k y=Z at*
  by_cases hkx:k<X.length
  ·repeat' (first|(simp (disch:=first|omega|assumption|exact bd (by with_unfolding_all rfl)|exact Or.inl rfl|exact Or.inl trivial|exact okL_map _ (fun _=>rfl) _|(simp only[VVlen]<;>omega)|fail) only[VV0,VV1,VV2,VV3,VV4,VV5,VV6,VV7,VV8,VV9,mkFnV,vargs,slotsL,opdsA,Nat.reduceEqDiff,Nat.reduceLT,Nat.reduceAdd,Nat.reduceBEq,Int.reduceAdd,Int.reduceSub,Int.reduceLT,Int.reduceLE,Int.reduceEq,Int.reduceNeg,↓reduceIte,reduceCtorEq,scL,scD,expand,List.replicate,c33l0,rowI_dv,hX,hY,iD_dv,t1,t3,e3,e4,vd_app,dAppY_rsl,dAppR_row,dAppX_gr,dApp_gr,dAppO_one,dAppY_gsl,dAppS_gro,dAppS_gro0])|apply gC_drawW|((first|apply gI_dec|apply gG_dec|apply gPG_dec|apply gI_var|apply gG_var|apply gPG_var)<;>intro _))
   all_goals try (exfalso;omega)
   refine ⟨_,_,_,?_,weak_to [(12,5),(4,4),(3,3),(2,2),(1,1),(0,0)] 6 h0 rfl rfl rfl rfl,j+1,rfl,hlt,rfl,?_⟩
   ·omega
   ·rw[← eQ];rfl
  ·have d0:X.drop k= []:=List.drop_eq_nil_of_le (by omega)
   have d1:X.length - k=0:=by omega
   rw[d0] at e3 t3
   rw[List.map_nil,List.append_nil] at e3
   have hkX:X.length=k:=by omega
   rw[hkX] at eXl eQ
   repeat' (first|(simp (disch:=first|omega|assumption|exact bd (by with_unfolding_all rfl)|exact Or.inl rfl|exact Or.inl trivial|exact okL_map _ (fun _=>rfl) _|(simp only[VVlen]<;>omega)|fail) only[VV0,VV1,VV2,VV3,VV4,VV5,VV6,VV7,VV8,VV9,mkFnV,vargs,slotsL,opdsA,Nat.reduceEqDiff,Nat.reduceLT,Nat.reduceAdd,Nat.reduceBEq,Int.reduceAdd,Int.reduceSub,Int.reduceLT,Int.reduceLE,Int.reduceEq,Int.reduceNeg,↓reduceIte,reduceCtorEq,scL,scD,expand,List.replicate,c33l0,rowI_dv,hX,hY,iD_dv,t1,t3,e3,e4,vd_app,dAppY_rsl,dAppR_row,dAppX_gr,dApp_gr,dAppO_one,dAppY_gsl,dAppS_gro,dAppS_gro0,d0,d1,List.map_nil,List.take_nil])|apply gC_drawW|((first|apply gI_dec|apply gG_dec|apply gPG_dec|apply gI_var|apply gG_var|apply gPG_var)<;>intro _))
   all_goals try (exfalso;omega)
   refine ⟨_,_,_,?_,weak_to [(11,5),(4,4),(3,3),(2,2),(1,1),(0,0)] 6 h0 rfl rfl rfl rfl,j+1,rfl,hlt,rfl,?_⟩
   ·omega
   ·rw[← eQ];rfl
 ·have:j=M.length:=by omega
  subst this
  repeat' (first|(simp (disch:=first|omega|assumption|exact bd (by with_unfolding_all rfl)|exact Or.inl rfl|exact Or.inl trivial|exact okL_map _ (fun _=>rfl) _|(simp only[VVlen]<;>omega)|fail) only[VV0,VV1,VV2,VV3,VV4,VV5,VV6,VV7,VV8,VV9,mkFnV,vargs,slotsL,opdsA,Nat.reduceEqDiff,Nat.reduceLT,Nat.reduceAdd,Nat.reduceBEq,Int.reduceAdd,Int.reduceSub,Int.reduceLT,Int.reduceLE,Int.reduceEq,Int.reduceNeg,↓reduceIte,reduceCtorEq,scL,scD,expand,List.replicate,c33l0])|apply gC_drawW|((first|apply gI_dec|apply gG_dec|apply gPG_dec|apply gI_var|apply gG_var|apply gPG_var)<;>intro _))
  refine finA (snap_3 (a':=strs 4 W) (b':=strs 4 N) (c':=rowsV 4 4 (rowsW M k B)) ?_ (snap_grD (n:=N.length) (l:=N.map sD) rfl (by simp)) ?_) rfl rfl rfl h0
  ·rw[show strs 4 W= .sl 4 (S.length+1) (W.map sD) by rw[← eS]]
   exact snap_grD rfl (by simp[eS])
  ·have eR:rowsQ M k B M.length=(rowsW M k B).map (rowI 4):=by simp[rowsQ,rowsW]
   rw[eR,show rowsV 4 4 (rowsW M k B)= .sl 4 M.length ((rowsW M k B).map (rowI 4)) by rw[← rowsW_len M k B]]
   exact snap_grD rfl (by simp[rowsW_len])
end
section
variable (w:World) (n:Nat)
theorem rinsert_p (S N:List (List UInt8)) (M:List (List Int)) (hm:Mod S N M) (i:Nat) (num den:Int) (x:List UInt8) (hx:x.length≤1000) (h:Val S N M) (ha:argB S.length i num den) (hf:freshF S x=0):
 VSpec (EN w (n+5)) 15 [tableV 3 3 3 1 S N M,iN i,strV x,iN num,iN den] (.tup [tableV 4 4 4 4 (withL S (i+1) x) N (rowsW M (i+1) (betL M i num den)),iN 0]) ⟨[],0,0⟩:=by
 refine vspec_g rfl rfl (fun _ _=>rfl) (Nat.le_of_ble_eq_true rfl) (oldVals w) (retOK_nil (by simp only[Cl,ClL,and_true,true_and];trivial)) rfl fun C hC h0=>?_
 have hb:=rbetween_p w n S N M hm i num den h ha
 have hs:=h.s
 have hM:M.length≤30:=by have:=h.m;have:=h.n;omega
 have ha':=ha
 unfold argB at ha'
 have hfr:=rfresh_p w (n+2) 3 3 3 1 S N M x (by omega) hx
 rw[hf] at hfr
 have hp:=rput_p w (n+3) S N M (i+1) 3 (betL M i num den) x (by omega) (by simp[betL]) (fun k hk=>by have:=(h.row hk).1;omega) (fun k hk=>by have:=(h.row hk).1;omega) (by omega) (by omega) (by have:=h.n;omega) h.s1 h.n1 (by omega)
 have eb:(betL M i num den).length=M.length:=by simp[betL]
 rw[show intsV 3 (betL M i num den)= .sl 3 M.length ((betL M i num den).map iD) by rw[← eb]] at hp
 repeat' (first|(simp (disch:=first|omega|assumption|exact bd (by with_unfolding_all rfl)|exact Or.inl rfl|exact Or.inl trivial|exact okL_map _ (fun _=>rfl) _|(simp only[VVlen]<;>omega)|fail) only[VV0,VV1,VV2,VV3,VV4,VV5,VV6,VV7,VV8,VV9,mkFnV,vargs,slotsL,opdsA,Nat.reduceEqDiff,Nat.reduceLT,Nat.reduceAdd,Nat.reduceBEq,Int.reduceAdd,Int.reduceSub,Int.reduceLT,Int.reduceLE,Int.reduceEq,Int.reduceNeg,↓reduceIte,reduceCtorEq,scL,scD,expand,List.replicate,c15])|apply gC_drawW|((first|apply gI_dec|apply gG_dec|apply gPG_dec|apply gI_var|apply gG_var|apply gPG_var)<;>intro _))
 refine callV_fin (by rw[hC];exact hb) rfl rfl (fun _=>rfl) ?_
 repeat' (first|(simp (disch:=first|omega|assumption|exact bd (by with_unfolding_all rfl)|exact Or.inl rfl|exact Or.inl trivial|exact okL_map _ (fun _=>rfl) _|(simp only[VVlen]<;>omega)|fail) only[VV0,VV1,VV2,VV3,VV4,VV5,VV6,VV7,VV8,VV9,mkFnV,vargs,slotsL,opdsA,Nat.reduceEqDiff,Nat.reduceLT,Nat.reduceAdd,Nat.reduceBEq,Int.reduceAdd,Int.reduceSub,Int.reduceLT,Int.reduceLE,Int.reduceEq,Int.reduceNeg,↓reduceIte,reduceCtorEq,scL,scD,expand,List.replicate])|apply gC_drawW|((first|apply gI_dec|apply gG_dec|apply gPG_dec|apply gI_var|apply gG_var|apply gPG_var)<;>intro _))
 refine callV_flat (by rw[hC];exact hfr.flat rfl rfl) ?_
 repeat' (first|(simp (disch:=first|omega|assumption|exact bd (by with_unfolding_all rfl)|exact Or.inl rfl|exact Or.inl trivial|exact okL_map _ (fun _=>rfl) _|(simp only[VVlen]<;>omega)|fail) only[VV0,VV1,VV2,VV3,VV4,VV5,VV6,VV7,VV8,VV9,mkFnV,vargs,slotsL,opdsA,Nat.reduceEqDiff,Nat.reduceLT,Nat.reduceAdd,Nat.reduceBEq,Int.reduceAdd,Int.reduceSub,Int.reduceLT,Int.reduceLE,Int.reduceEq,Int.reduceNeg,↓reduceIte,reduceCtorEq,scL,scD,expand,List.replicate])|apply gC_drawW|((first|apply gI_dec|apply gG_dec|apply gPG_dec|apply gI_var|apply gG_var|apply gPG_var)<;>intro _))
 refine callV_fin (by rw[hC];exact hp) rfl rfl (fun _=>rfl) ?_
 repeat' (first|(simp (disch:=first|omega|assumption|exact bd (by with_unfolding_all rfl)|exact Or.inl rfl|exact Or.inl trivial|exact okL_map _ (fun _=>rfl) _|(simp only[VVlen]<;>omega)|fail) only[VV0,VV1,VV2,VV3,VV4,VV5,VV6,VV7,VV8,VV9,mkFnV,vargs,slotsL,opdsA,Nat.reduceEqDiff,Nat.reduceLT,Nat.reduceAdd,Nat.reduceBEq,Int.reduceAdd,Int.reduceSub,Int.reduceLT,Int.reduceLE,Int.reduceEq,Int.reduceNeg,↓reduceIte,reduceCtorEq,scL,scD,expand,List.replicate])|apply gC_drawW|((first|apply gI_dec|apply gG_dec|apply gPG_dec|apply gI_var|apply gG_var|apply gPG_var)<;>intro _))
 exact weak_to [] 0 h0 rfl rfl rfl rfl
end
def nxtL (n:Nat) (M:List (List Int)) (j:Nat):List D:=(List.range j).map fun k=>iD (nxt n M[k]!)
theorem nxtL_succ (n:Nat) (M:List (List Int)) (j:Nat):nxtL n M j++ [iD (nxt n M[j]!)]=nxtL n M (j+1):=by
 unfold nxtL;rw[List.range_succ,List.map_append];rfl
theorem nxtL_all (n:Nat) (M:List (List Int)):nxtL n M M.length=(M.map (nxt n)).map iD:=by
 unfold nxtL
 apply List.ext_getElem
 ·simp
 ·intro i h1 h2
  simp at h1 ⊢
  simp[h1]
section
variable (w:World) (n:Nat)
theorem rnext_big (S N:List (List UInt8)) (M:List (List Int)) (hm:Mod S N M) (x:List UInt8) (hx:x.length≤1000) (h:Val S N M) (hs:¬ S.length<2) (hf:freshF S x=0) (hno:¬ nxtOK S.length M):
 VSpec (EN w (n+5)) 17 [tableV 3 3 3 1 S N M,strV x] (.tup [noT,iN 16]) ⟨[],0,0⟩:=by
 refine vspec_flat rfl rfl (fun _ _=>rfl) (Nat.le_of_ble_eq_true rfl) (oldVals w) rfl fun C hC h0=>?_
 have hc:=rcheck_p w (n+1) 3 3 3 1 S N M hm
 rw[(val_iff S N M).2 h] at hc
 have hS:=h.s
 have hM:M.length≤30:=by have:=h.m;have:=h.n;omega
 have hfr:=rfresh_p w (n+2) 3 3 3 1 S N M x (by omega) hx
 rw[hf] at hfr
 repeat' (first|(simp (disch:=first|omega|assumption|exact bd (by with_unfolding_all rfl)|exact Or.inl rfl|exact Or.inl trivial|exact okL_map _ (fun _=>rfl) _|(simp only[VVlen]<;>omega)|fail) only[VV0,VV1,VV2,VV3,VV4,VV5,VV6,VV7,VV8,VV9,mkFnV,vargs,slotsL,opdsA,Nat.reduceEqDiff,Nat.reduceLT,Nat.reduceAdd,Nat.reduceBEq,Int.reduceAdd,Int.reduceSub,Int.reduceLT,Int.reduceLE,Int.reduceEq,Int.reduceNeg,↓reduceIte,reduceCtorEq,scL,scD,expand,List.replicate,c17])|apply gC_drawW|((first|apply gI_dec|apply gG_dec|apply gPG_dec|apply gI_var|apply gG_var|apply gPG_var)<;>intro _))
 refine callV_flat (by rw[hC];exact hc.flat rfl rfl) ?_
 repeat' (first|(simp (disch:=first|omega|assumption|exact bd (by with_unfolding_all rfl)|exact Or.inl rfl|exact Or.inl trivial|exact okL_map _ (fun _=>rfl) _|(simp only[VVlen]<;>omega)|fail) only[VV0,VV1,VV2,VV3,VV4,VV5,VV6,VV7,VV8,VV9,mkFnV,vargs,slotsL,opdsA,Nat.reduceEqDiff,Nat.reduceLT,Nat.reduceAdd,Nat.reduceBEq,Int.reduceAdd,Int.reduceSub,Int.reduceLT,Int.reduceLE,Int.reduceEq,Int.reduceNeg,↓reduceIte,reduceCtorEq,scL,scD,expand,List.replicate])|apply gC_drawW|((first|apply gI_dec|apply gG_dec|apply gPG_dec|apply gI_var|apply gG_var|apply gPG_var)<;>intro _))
 all_goals try (exfalso;omega)
 refine callV_flat (by rw[hC];exact hfr.flat rfl rfl) ?_
 repeat' (first|(simp (disch:=first|omega|assumption|exact bd (by with_unfolding_all rfl)|exact Or.inl rfl|exact Or.inl trivial|exact okL_map _ (fun _=>rfl) _|(simp only[VVlen]<;>omega)|fail) only[VV0,VV1,VV2,VV3,VV4,VV5,VV6,VV7,VV8,VV9,mkFnV,vargs,slotsL,opdsA,Nat.reduceEqDiff,Nat.reduceLT,Nat.reduceAdd,Nat.reduceBEq,Int.reduceAdd,Int.reduceSub,Int.reduceLT,Int.reduceLE,Int.reduceEq,Int.reduceNeg,↓reduceIte,reduceCtorEq,scL,scD,expand,List.replicate])|apply gC_drawW|((first|apply gI_dec|apply gG_dec|apply gPG_dec|apply gI_var|apply gG_var|apply gPG_var)<;>intro _))
 refine g_while (fun m fr st=>∃ j:Nat,m=M.length - j∧j≤M.length∧(∀ k,k<j→nxt S.length M[k]! ≤1000000)∧fr= [(1,strV x),(2,.ptr 0 0),(4,.ptr 1 0),(7,iN S.length),(9,.gr 2 2 j),(10,iN j)]∧
  st=⟨[(2,.gro 3 1 false (nxtL S.length M j)),(1,.box 25 1 [nilS,nilS,nilS]),(0,tabO 3 3 3 1 S N M)],3,0⟩) M.length ?_ ⟨_,_,weak_nilSlot 9 3 1 rfl,0,by omega,Nat.zero_le _,by omega,rfl,rfl⟩ ?_
 ·rw[hC,callP_rounds];unfold many;omega
 rintro m fr st ⟨j,rfl,hj,hall,rfl,rfl⟩
 by_cases hlt:j<M.length
 ·have hr:=h.row hlt
  have ew:=nxtL_succ S.length M j
  have hL:(nxtL S.length M j).length=j:=by simp[nxtL]
  have hok:okL (nxtL S.length M j)=true:=okL_map _ (fun _=>rfl) _
  have hget:∀ y:Int,dload (nxtL S.length M j++ [.sc (.int .i64 y)]) j none=some (iN y):=fun y=>by
   simp only[dload,lget_eq];rw[List.getElem?_append_right (by omega),hL];simp[dv]
  have hk2:=fun hh=>lt_succ_cases hall (k:=j) (P:=fun k=>nxt S.length M[k]! ≤1000000) hh
  generalize nxtL S.length M j=L at*
  generalize hX:M[j]! =X at*
  obtain ⟨x1,x2⟩:=hr
  have ha1:=x2 (S.length - 1) (by omega)
  have hb1:=x2 (S.length - 2) (by omega)
  have e1:((S.length:Int) - 1).toNat=S.length - 1:=by omega
  have e2:((S.length:Int) - 2).toNat=S.length - 2:=by omega
  unfold nxt at ew hk2
  generalize hA:X[S.length - 1]! =A at*
  generalize hBB:X[S.length - 2]! =B at*
  by_cases hle:2*A - B≤1000000
  ·repeat' (first|(simp (disch:=first|omega|assumption|exact bd (by with_unfolding_all rfl)|exact Or.inl rfl|exact Or.inl trivial|exact okL_map _ (fun _=>rfl) _|(simp only[VVlen]<;>omega)|fail) only[VV0,VV1,VV2,VV3,VV4,VV5,VV6,VV7,VV8,VV9,mkFnV,vargs,slotsL,opdsA,Nat.reduceEqDiff,Nat.reduceLT,Nat.reduceAdd,Nat.reduceBEq,Int.reduceAdd,Int.reduceSub,Int.reduceLT,Int.reduceLE,Int.reduceEq,Int.reduceNeg,↓reduceIte,reduceCtorEq,scL,scD,expand,List.replicate,c17l0,rowI_dv,hX,iD_dv,hA,hBB,e1,e2,hget,vd_app,dAppX_gr,dApp_gr,dAppO_one])|apply gC_drawW|((first|apply gI_dec|apply gG_dec|apply gPG_dec|apply gI_var|apply gG_var|apply gPG_var)<;>intro _))
   all_goals try (exfalso;omega)
   refine ⟨_,_,_,by omega,weak_to [(4,2),(1,1),(0,0)] 3 h0 rfl rfl rfl rfl,j+1,rfl,hlt,hk2 hle,?_,?_⟩
   ·simp[renF,vren,vrenL,aget_cons]
   ·rw[← ew];simp[renH,aget_cons,renO,iD,vren,vrenL]
  ·repeat' (first|(simp (disch:=first|omega|assumption|exact bd (by with_unfolding_all rfl)|exact Or.inl rfl|exact Or.inl trivial|exact okL_map _ (fun _=>rfl) _|(simp only[VVlen]<;>omega)|fail) only[VV0,VV1,VV2,VV3,VV4,VV5,VV6,VV7,VV8,VV9,mkFnV,vargs,slotsL,opdsA,Nat.reduceEqDiff,Nat.reduceLT,Nat.reduceAdd,Nat.reduceBEq,Int.reduceAdd,Int.reduceSub,Int.reduceLT,Int.reduceLE,Int.reduceEq,Int.reduceNeg,↓reduceIte,reduceCtorEq,scL,scD,expand,List.replicate,c17l0,rowI_dv,hX,iD_dv,hA,hBB,e1,e2,hget,vd_app,dAppX_gr,dApp_gr,dAppO_one])|apply gC_drawW|((first|apply gI_dec|apply gG_dec|apply gPG_dec|apply gI_var|apply gG_var|apply gPG_var)<;>intro _))
   all_goals try (exfalso;omega)
   exact weak_flat rfl h0 rfl
 ·have:j=M.length:=by omega
  subst this
  exact absurd hall hno
theorem rnext_p (S N:List (List UInt8)) (M:List (List Int)) (hm:Mod S N M) (x:List UInt8) (hx:x.length≤1000) (h:Val S N M) (hs:¬ S.length<2) (hf:freshF S x=0) (hok:nxtOK S.length M):
 VSpec (EN w (n+5)) 17 [tableV 3 3 3 1 S N M,strV x] (.tup [tableV 4 4 4 4 (withL S S.length x) N (rowsW M S.length (M.map (nxt S.length))),iN 0]) ⟨[],0,0⟩:=by
 refine vspec_g rfl rfl (fun _ _=>rfl) (Nat.le_of_ble_eq_true rfl) (oldVals w) (retOK_nil (by simp only[Cl,ClL,and_true,true_and];trivial)) rfl fun C hC h0=>?_
 have hc:=rcheck_p w (n+1) 3 3 3 1 S N M hm
 rw[(val_iff S N M).2 h] at hc
 have hS:=h.s
 have hM:M.length≤30:=by have:=h.m;have:=h.n;omega
 have hfr:=rfresh_p w (n+2) 3 3 3 1 S N M x (by omega) hx
 rw[hf] at hfr
 repeat' (first|(simp (disch:=first|omega|assumption|exact bd (by with_unfolding_all rfl)|exact Or.inl rfl|exact Or.inl trivial|exact okL_map _ (fun _=>rfl) _|(simp only[VVlen]<;>omega)|fail) only[VV0,VV1,VV2,VV3,VV4,VV5,VV6,VV7,VV8,VV9,mkFnV,vargs,slotsL,opdsA,Nat.reduceEqDiff,Nat.reduceLT,Nat.reduceAdd,Nat.reduceBEq,Int.reduceAdd,Int.reduceSub,Int.reduceLT,Int.reduceLE,Int.reduceEq,Int.reduceNeg,↓reduceIte,reduceCtorEq,scL,scD,expand,List.replicate,c17])|apply gC_drawW|((first|apply gI_dec|apply gG_dec|apply gPG_dec|apply gI_var|apply gG_var|apply gPG_var)<;>intro _))
 refine callV_flat (by rw[hC];exact hc.flat rfl rfl) ?_
 repeat' (first|(simp (disch:=first|omega|assumption|exact bd (by with_unfolding_all rfl)|exact Or.inl rfl|exact Or.inl trivial|exact okL_map _ (fun _=>rfl) _|(simp only[VVlen]<;>omega)|fail) only[VV0,VV1,VV2,VV3,VV4,VV5,VV6,VV7,VV8,VV9,mkFnV,vargs,slotsL,opdsA,Nat.reduceEqDiff,Nat.reduceLT,Nat.reduceAdd,Nat.reduceBEq,Int.reduceAdd,Int.reduceSub,Int.reduceLT,Int.reduceLE,Int.reduceEq,Int.reduceNeg,↓reduceIte,reduceCtorEq,scL,scD,expand,List.replicate])|apply gC_drawW|((first|apply gI_dec|apply gG_dec|apply gPG_dec|apply gI_var|apply gG_var|apply gPG_var)<;>intro _))
 all_goals try (exfalso;omega)
 refine callV_flat (by rw[hC];exact hfr.flat rfl rfl) ?_
 repeat' (first|(simp (disch:=first|omega|assumption|exact bd (by with_unfolding_all rfl)|exact Or.inl rfl|exact Or.inl trivial|exact okL_map _ (fun _=>rfl) _|(simp only[VVlen]<;>omega)|fail) only[VV0,VV1,VV2,VV3,VV4,VV5,VV6,VV7,VV8,VV9,mkFnV,vargs,slotsL,opdsA,Nat.reduceEqDiff,Nat.reduceLT,Nat.reduceAdd,Nat.reduceBEq,Int.reduceAdd,Int.reduceSub,Int.reduceLT,Int.reduceLE,Int.reduceEq,Int.reduceNeg,↓reduceIte,reduceCtorEq,scL,scD,expand,List.replicate])|apply gC_drawW|((first|apply gI_dec|apply gG_dec|apply gPG_dec|apply gI_var|apply gG_var|apply gPG_var)<;>intro _))
 refine g_while (fun m fr st=>∃ j:Nat,m=M.length - j∧j≤M.length∧fr= [(1,strV x),(2,.ptr 0 0),(4,.ptr 1 0),(7,iN S.length),(9,.gr 2 2 j),(10,iN j)]∧
  st=⟨[(2,.gro 3 1 false (nxtL S.length M j)),(1,.box 25 1 [nilS,nilS,nilS]),(0,tabO 3 3 3 1 S N M)],3,0⟩) M.length ?_ ⟨_,_,weak_nilSlot 9 3 1 rfl,0,by omega,Nat.zero_le _,rfl,rfl⟩ ?_
 ·rw[hC,callP_rounds];unfold many;omega
 rintro m fr st ⟨j,rfl,hj,rfl,rfl⟩
 by_cases hlt:j<M.length
 ·have hr:=h.row hlt
  have ew:=nxtL_succ S.length M j
  have hL:(nxtL S.length M j).length=j:=by simp[nxtL]
  have hok2:okL (nxtL S.length M j)=true:=okL_map _ (fun _=>rfl) _
  have hget:∀ y:Int,dload (nxtL S.length M j++ [.sc (.int .i64 y)]) j none=some (iN y):=fun y=>by
   simp only[dload,lget_eq];rw[List.getElem?_append_right (by omega),hL];simp[dv]
  have hle:=hok j hlt
  generalize nxtL S.length M j=L at*
  generalize hX:M[j]! =X at*
  obtain ⟨x1,x2⟩:=hr
  have ha1:=x2 (S.length - 1) (by omega)
  have hb1:=x2 (S.length - 2) (by omega)
  have e1:((S.length:Int) - 1).toNat=S.length - 1:=by omega
  have e2:((S.length:Int) - 2).toNat=S.length - 2:=by omega
  unfold nxt at ew hle
  generalize hA:X[S.length - 1]! =A at*
  generalize hBB:X[S.length - 2]! =B at*
  repeat' (first|(simp (disch:=first|omega|assumption|exact bd (by with_unfolding_all rfl)|exact Or.inl rfl|exact Or.inl trivial|exact okL_map _ (fun _=>rfl) _|(simp only[VVlen]<;>omega)|fail) only[VV0,VV1,VV2,VV3,VV4,VV5,VV6,VV7,VV8,VV9,mkFnV,vargs,slotsL,opdsA,Nat.reduceEqDiff,Nat.reduceLT,Nat.reduceAdd,Nat.reduceBEq,Int.reduceAdd,Int.reduceSub,Int.reduceLT,Int.reduceLE,Int.reduceEq,Int.reduceNeg,↓reduceIte,reduceCtorEq,scL,scD,expand,List.replicate,c17l0,rowI_dv,hX,iD_dv,hA,hBB,e1,e2,hget,vd_app,dAppX_gr,dApp_gr,dAppO_one])|apply gC_drawW|((first|apply gI_dec|apply gG_dec|apply gPG_dec|apply gI_var|apply gG_var|apply gPG_var)<;>intro _))
  all_goals try (exfalso;omega)
  refine ⟨_,_,_,by omega,weak_to [(4,2),(1,1),(0,0)] 3 h0 rfl rfl rfl rfl,j+1,rfl,hlt,?_,?_⟩
  ·simp[renF,vren,vrenL,aget_cons]
  ·rw[← ew];simp[renH,aget_cons,renO,iD,vren,vrenL]
 ·have:j=M.length:=by omega
  subst this
  have hp:=rput_p w (n+3) S N M S.length 4 (M.map (nxt S.length)) x (by omega) (by simp) (fun k hk=>by have:=(h.row hk).1;omega) (fun k hk=>by have:=(h.row hk).1;omega) (by omega) (by omega) (by have:=h.n;omega) h.s1 h.n1 (Nat.le_refl _)
  rw[show intsV 4 (M.map (nxt S.length))= .sl 4 M.length ((M.map (nxt S.length)).map iD) by show V.sl 4 _ _=_;rw[List.length_map]] at hp
  have hL:=nxtL_all S.length M
  have hLl:(nxtL S.length M M.length).length=M.length:=by simp[nxtL]
  rw[hL] at hLl
  rw[hL]
  repeat' (first|(simp (disch:=first|omega|assumption|exact bd (by with_unfolding_all rfl)|exact Or.inl rfl|exact Or.inl trivial|exact okL_map _ (fun _=>rfl) _|(simp only[VVlen]<;>omega)|fail) only[VV0,VV1,VV2,VV3,VV4,VV5,VV6,VV7,VV8,VV9,mkFnV,vargs,slotsL,opdsA,Nat.reduceEqDiff,Nat.reduceLT,Nat.reduceAdd,Nat.reduceBEq,Int.reduceAdd,Int.reduceSub,Int.reduceLT,Int.reduceLE,Int.reduceEq,Int.reduceNeg,↓reduceIte,reduceCtorEq,scL,scD,expand,List.replicate,c17l0])|apply gC_drawW|((first|apply gI_dec|apply gG_dec|apply gPG_dec|apply gI_var|apply gG_var|apply gPG_var)<;>intro _))
  refine callV_of (xs':= [tableV 3 3 3 1 S N M,iN S.length,strV x,.sl 4 M.length ((M.map (nxt S.length)).map iD)]) (by rw[hC];exact hp) ?_ rfl rfl ?_
  ·exact snapL_last (snap_grD rfl hLl)
  repeat' (first|(simp (disch:=first|omega|assumption|exact bd (by with_unfolding_all rfl)|exact Or.inl rfl|exact Or.inl trivial|exact okL_map _ (fun _=>rfl) _|(simp only[VVlen]<;>omega)|fail) only[VV0,VV1,VV2,VV3,VV4,VV5,VV6,VV7,VV8,VV9,mkFnV,vargs,slotsL,opdsA,Nat.reduceEqDiff,Nat.reduceLT,Nat.reduceAdd,Nat.reduceBEq,Int.reduceAdd,Int.reduceSub,Int.reduceLT,Int.reduceLE,Int.reduceEq,Int.reduceNeg,↓reduceIte,reduceCtorEq,scL,scD,expand,List.replicate,vsh,vshL,shH,shO,fzSL,fzS,frozA_none])|apply gC_drawW|((first|apply gI_dec|apply gG_dec|apply gPG_dec|apply gI_var|apply gG_var|apply gPG_var)<;>intro _))
  exact weak_to [] 0 h0 rfl rfl rfl rfl
end
set_option maxHeartbeats 8000000
def snpL (step:Int) (X:List Int) (k:Nat):List D:=(List.range k).map fun i=>iD (snp step X[i]!)
theorem snpL_succ (step:Int) (X:List Int) (k:Nat):snpL step X k++ [iD (snp step X[k]!)]=snpL step X (k+1):=by
 unfold snpL;rw[List.range_succ,List.map_append];rfl
theorem snpL_all (step:Int) (X:List Int):snpL step X X.length=(X.map (snp step)).map iD:=by
 unfold snpL
 apply List.ext_getElem
 ·simp
 ·intro i h1 h2
  simp at h1 ⊢
  simp[h1]
def rowsT (M:List (List Int)) (step:Int) (j:Nat):List D:=(List.range j).map fun i=>rowI 4 (M[i]!.map (snp step))
theorem rowsT_succ (M:List (List Int)) (step:Int) (j:Nat):rowsT M step j++ [rowI 4 (M[j]!.map (snp step))]=rowsT M step (j+1):=by
 unfold rowsT;rw[List.range_succ,List.map_append];rfl
theorem rowsT_all (M:List (List Int)) (step:Int):rowsT M step M.length=(snpM M step).map (rowI 4):=by
 unfold rowsT
 apply List.ext_getElem
 ·simp
 ·intro i h1 h2
  simp at h1 ⊢
  simp[h1]
theorem fitR_iff (step:Int) (X:List Int):∀ n,fitR step X n=true↔∀ k,k<n→snp step X[k]! ≤1000000
 |0=>by simp[fitR]
 |n+1=>by
  simp only[fitR,Bool.and_eq_true,fitR_iff step X n,decide_eq_true_eq]
  exact ⟨fun h k hk=>(Nat.lt_succ_iff_lt_or_eq.1 hk).elim (h.1 k) (fun e=>e▸h.2),fun h=>⟨fun k hk=>h k (by omega),h n (by omega)⟩⟩
theorem fitM_iff (step:Int) (M:List (List Int)):∀ n,fitM step M n=true↔∀ j,j<n→∀ k,k<M[j]!.length→snp step M[j]![k]! ≤1000000
 |0=>by simp[fitM]
 |n+1=>by
  simp only[fitM,Bool.and_eq_true,fitM_iff step M n,fitR_iff]
  exact ⟨fun h k hk=>(Nat.lt_succ_iff_lt_or_eq.1 hk).elim (h.1 k) (fun e=>e▸h.2),fun h=>⟨fun k hk=>h k (by omega),h n (by omega)⟩⟩
section
variable (w:World) (n:Nat)
theorem rsnap_p (S N:List (List UInt8)) (M:List (List Int)) (hm:Mod S N M) (step:Int) (h:Val S N M) (h1:1≤step) (h2:step≤10000) (hf:fitM step M M.length=true):
 VSpec (EN w (n+4)) 19 [tableV 3 3 3 1 S N M,iN step] (.tup [tableV 4 4 4 4 S N (snpM M step),iN 0]) ⟨[],0,0⟩:=by
 refine vspec_g rfl rfl (fun _ _=>rfl) (Nat.le_of_ble_eq_true rfl) (oldVals w) (retOK_nil (by simp only[Cl,ClL,and_true,true_and];trivial)) rfl fun C hC h0=>?_
 have hc:=rcheck_p w n 3 3 3 1 S N M hm
 rw[(val_iff S N M).2 h] at hc
 have hS:=h.s
 have hN:=h.n
 have hM:M.length≤30:=by have:=h.m;omega
 have s1:∀ H:VHp,srcOf H 1 (strs 3 S)=some (S.length,S.map sD,[]):=fun H=>srcOf_sl H 1 _ _ _ (by simp)
 have s2:∀ H:VHp,srcOf H 1 (strs 3 N)=some (N.length,N.map sD,[]):=fun H=>srcOf_sl H 1 _ _ _ (by simp)
 have okS:okL (S.map sD)=true:=okL_map _ (fun _=>rfl) _
 have okN:okL (N.map sD)=true:=okL_map _ (fun _=>rfl) _
 have nS:S.length ≠ 0:=by have:=h.s1;omega
 have nN:N.length ≠ 0:=by have:=h.n1;omega
 have hall:=(fitM_iff step M M.length).1 hf
 repeat' (first|(simp (disch:=first|omega|assumption|exact bd (by with_unfolding_all rfl)|exact Or.inl rfl|exact Or.inl trivial|exact okL_map _ (fun _=>rfl) _|(simp only[VVlen]<;>omega)|fail) only[VV0,VV1,VV2,VV3,VV4,VV5,VV6,VV7,VV8,VV9,mkFnV,vargs,slotsL,opdsA,Nat.reduceEqDiff,Nat.reduceLT,Nat.reduceAdd,Nat.reduceBEq,Int.reduceAdd,Int.reduceSub,Int.reduceLT,Int.reduceLE,Int.reduceEq,Int.reduceNeg,↓reduceIte,reduceCtorEq,scL,scD,expand,List.replicate,c19])|apply gC_drawW|((first|apply gI_dec|apply gG_dec|apply gPG_dec|apply gI_var|apply gG_var|apply gPG_var)<;>intro _))
 refine callV_flat (by rw[hC];exact hc.flat rfl rfl) ?_
 repeat' (first|(simp (disch:=first|omega|assumption|exact bd (by with_unfolding_all rfl)|exact Or.inl rfl|exact Or.inl trivial|exact okL_map _ (fun _=>rfl) _|(simp only[VVlen]<;>omega)|fail) only[VV0,VV1,VV2,VV3,VV4,VV5,VV6,VV7,VV8,VV9,mkFnV,vargs,slotsL,opdsA,Nat.reduceEqDiff,Nat.reduceLT,Nat.reduceAdd,Nat.reduceBEq,Int.reduceAdd,Int.reduceSub,Int.reduceLT,Int.reduceLE,Int.reduceEq,Int.reduceNeg,↓reduceIte,reduceCtorEq,scL,scD,expand,List.replicate,s1,s2,vd_app,dAppX_gr,dApp_gr,dAppO_one])|apply gC_drawW|((first|apply gI_dec|apply gG_dec|apply gPG_dec|apply gI_var|apply gG_var|apply gPG_var)<;>intro _))
 all_goals try (exfalso;omega)
 have hnil:∀ {fr:VFr},Weak C fr ⟨[(2,.box 25 1 [.gr 2 3 S.length,.gr 2 4 N.length,nilS]),(4,.gro 9 1 false (N.map sD)),(3,.gro 9 1 false (S.map sD)),(1,.box 25 1 [nilS,nilS,nilS]),(0,tabO 3 3 3 1 S N M)],5,0⟩ fr
   ⟨[(5,.gro 39 1 false (rowsT M step 0)),(2,.box 25 1 [.gr 2 3 S.length,.gr 2 4 N.length,.gr 2 5 0]),(4,.gro 9 1 false (N.map sD)),(3,.gro 9 1 false (S.map sD)),(1,.box 25 1 [nilS,nilS,nilS]),(0,tabO 3 3 3 1 S N M)],6,0⟩:=fun {fr}=>
  weak_nilCell (l:= [.gr 2 3 S.length,.gr 2 4 N.length,nilS]) 2 25 1 2 39 1 rfl rfl (show (2:Nat) ≠ 5 from by decide)
 refine gL_weak ((weak_to [(6,2),(5,4),(3,3),(1,1),(0,0)] 5 h0 rfl rfl rfl rfl).trans hnil) ?_
 refine g_while (fun m fr st=>∃ j:Nat,m=M.length - j∧j≤M.length∧fr= [(1,iN step),(2,.ptr 0 0),(4,.ptr 1 0),(7,.ptr 2 0),(8,iN j)]∧
  st=⟨[(5,.gro 39 1 false (rowsT M step j)),(2,.box 25 1 [.gr 2 3 S.length,.gr 2 4 N.length,.gr 2 5 j]),(4,.gro 9 1 false (N.map sD)),(3,.gro 9 1 false (S.map sD)),(1,.box 25 1 [nilS,nilS,nilS]),(0,tabO 3 3 3 1 S N M)],6,0⟩) M.length ?_ ⟨_,_,.refl _ _,0,by omega,Nat.zero_le _,rfl,rfl⟩ ?_
 ·rw[hC,callP_rounds];unfold many;omega
 rintro m fr st ⟨j,rfl,hj,rfl,rfl⟩
 by_cases hlt:j<M.length
 ·have hr:=h.row hlt
  have eT:=rowsT_succ M step j
  have lT:(rowsT M step j).length=j:=by simp[rowsT]
  have oT:okL (rowsT M step j)=true:=okL_map _ (fun _=>rfl) _
  have hle1:=hall j hlt
  generalize hX:M[j]! =X at*
  obtain ⟨x1,x2⟩:=hr
  have eX:(X.map (snp step)).length=X.length:=by simp
  rw[show rowI 4 (X.map (snp step))= .sl 4 X.length (snpL step X X.length) by rw[snpL_all];show D.sl 4 _ _=_;rw[eX]] at eT
  have lX:(snpL step X X.length).length=X.length:=by simp[snpL]
  have oX:okL (snpL step X X.length)=true:=okL_map _ (fun _=>rfl) _
  have nX:X.length ≠ 0:=by have:=h.s1;omega
  generalize rowsT M step j=RT at*
  repeat' (first|(simp (disch:=first|omega|assumption|exact bd (by with_unfolding_all rfl)|exact Or.inl rfl|exact Or.inl trivial|exact okL_map _ (fun _=>rfl) _|(simp only[VVlen]<;>omega)|fail) only[VV0,VV1,VV2,VV3,VV4,VV5,VV6,VV7,VV8,VV9,mkFnV,vargs,slotsL,opdsA,Nat.reduceEqDiff,Nat.reduceLT,Nat.reduceAdd,Nat.reduceBEq,Int.reduceAdd,Int.reduceSub,Int.reduceLT,Int.reduceLE,Int.reduceEq,Int.reduceNeg,↓reduceIte,reduceCtorEq,scL,scD,expand,List.replicate,c19l1,rowI_dv,hX])|apply gC_drawW|((first|apply gI_dec|apply gG_dec|apply gPG_dec|apply gI_var|apply gG_var|apply gPG_var)<;>intro _))
  all_goals try (exfalso;omega)
  refine g_while (fun m fr st=>∃ k:Nat,m=X.length - k∧k≤X.length∧fr= [(1,iN step),(2,.ptr 0 0),(4,.ptr 1 0),(7,.ptr 2 0),(8,iN j),(9,.gr 2 6 k),(10,iN k)]∧
   st=⟨[(6,.gro 3 1 false (snpL step X k)),(5,.gro 39 1 false RT),(2,.box 25 1 [.gr 2 3 S.length,.gr 2 4 N.length,.gr 2 5 j]),(4,.gro 9 1 false (N.map sD)),(3,.gro 9 1 false (S.map sD)),(1,.box 25 1 [nilS,nilS,nilS]),(0,tabO 3 3 3 1 S N M)],7,0⟩) X.length ?_ ⟨_,_,weak_nilSlot 9 3 1 rfl,0,by omega,Nat.zero_le _,rfl,rfl⟩ ?_
  ·rw[hC,callP_rounds];unfold many;omega
  rintro m fr st ⟨k,rfl,hk,rfl,rfl⟩
  by_cases hkt:k<X.length
  ·have ew:=snpL_succ step X k
   have hL:(snpL step X k).length=k:=by simp[snpL]
   have hok2:okL (snpL step X k)=true:=okL_map _ (fun _=>rfl) _
   have hget:∀ y:Int,dload (snpL step X k++ [.sc (.int .i64 y)]) k none=some (iN y):=fun y=>by
    simp only[dload,lget_eq];rw[List.getElem?_append_right (by omega),hL];simp[dv]
   have hle:=hle1 k hkt
   generalize snpL step X k=L at*
   have hv:=x2 k hkt
   generalize hv':X[k]! =v at*
   have hbd:=snp_bd h1 h2 hv.1 hv.2.1
   have hnp:=near_p w (n+2) v step hv.1 (by omega) h1 (by omega)
   have e5:snp step v=step*near v step:=rfl
   rw[e5] at ew hbd
   obtain ⟨b1,b2,b3,b4⟩:=hbd
   have b5:0≤near v step∧near v step≤2010000:=⟨b1,b2⟩
   generalize near v step=q at*
   clear b1 b2
   rw[show snp step v=step*q from e5] at hle
   repeat' (first|(simp (disch:=first|omega|assumption|exact bd (by with_unfolding_all rfl)|exact Or.inl rfl|exact Or.inl trivial|exact okL_map _ (fun _=>rfl) _|(simp only[VVlen]<;>omega)|fail) only[VV0,VV1,VV2,VV3,VV4,VV5,VV6,VV7,VV8,VV9,mkFnV,vargs,slotsL,opdsA,Nat.reduceEqDiff,Nat.reduceLT,Nat.reduceAdd,Nat.reduceBEq,Int.reduceAdd,Int.reduceSub,Int.reduceLT,Int.reduceLE,Int.reduceEq,Int.reduceNeg,↓reduceIte,reduceCtorEq,scL,scD,expand,List.replicate,c19l0,rowI_dv,hX,iD_dv,hv'])|apply gC_drawW|((first|apply gI_dec|apply gG_dec|apply gPG_dec|apply gI_var|apply gG_var|apply gPG_var)<;>intro _))
   all_goals try (exfalso;omega)
   refine callV_flat (by rw[hC];exact hnp.flat rfl rfl) ?_
   repeat' (first|(simp (disch:=first|omega|assumption|exact bd (by with_unfolding_all rfl)|exact Or.inl rfl|exact Or.inl trivial|exact okL_map _ (fun _=>rfl) _|(simp only[VVlen]<;>omega)|fail) only[VV0,VV1,VV2,VV3,VV4,VV5,VV6,VV7,VV8,VV9,mkFnV,vargs,slotsL,opdsA,Nat.reduceEqDiff,Nat.reduceLT,Nat.reduceAdd,Nat.reduceBEq,Int.reduceAdd,Int.reduceSub,Int.reduceLT,Int.reduceLE,Int.reduceEq,Int.reduceNeg,↓reduceIte,reduceCtorEq,scL,scD,expand,List.replicate,hget,vd_app,dAppX_gr,dApp_gr,dAppO_one])|apply gC_drawW|((first|apply gI_dec|apply gG_dec|apply gPG_dec|apply gI_var|apply gG_var|apply gPG_var)<;>intro _))
   all_goals try (exfalso;omega)
   refine ⟨_,_,_,by omega,weak_to [(8,6),(5,5),(2,2),(4,4),(3,3),(1,1),(0,0)] 7 h0 rfl rfl rfl rfl,k+1,rfl,hkt,?_,?_⟩
   ·simp[renF,vren,vrenL,aget_cons]
   ·rw[← ew];simp[renH,aget_cons,renO,iD,vren,vrenL]
  ·have:k=X.length:=by omega
   subst this
   repeat' (first|(simp (disch:=first|omega|assumption|exact bd (by with_unfolding_all rfl)|exact Or.inl rfl|exact Or.inl trivial|exact okL_map _ (fun _=>rfl) _|(simp only[VVlen]<;>omega)|fail) only[VV0,VV1,VV2,VV3,VV4,VV5,VV6,VV7,VV8,VV9,mkFnV,vargs,slotsL,opdsA,Nat.reduceEqDiff,Nat.reduceLT,Nat.reduceAdd,Nat.reduceBEq,Int.reduceAdd,Int.reduceSub,Int.reduceLT,Int.reduceLE,Int.reduceEq,Int.reduceNeg,↓reduceIte,reduceCtorEq,scL,scD,expand,List.replicate,c19l0,rowI_dv,hX])|apply gC_drawW|((first|apply gI_dec|apply gG_dec|apply gPG_dec|apply gI_var|apply gG_var|apply gPG_var)<;>intro _))
   all_goals try (exfalso;omega)
   refine ⟨_,_,_,?_,weak_to [(8,5),(2,2),(4,4),(3,3),(1,1),(0,0)] 6 h0 rfl rfl rfl rfl,j+1,rfl,hlt,rfl,?_⟩
   ·omega
   ·rw[← eT];rfl
 ·have:j=M.length:=by omega
  subst this
  repeat' (first|(simp (disch:=first|omega|assumption|exact bd (by with_unfolding_all rfl)|exact Or.inl rfl|exact Or.inl trivial|exact okL_map _ (fun _=>rfl) _|(simp only[VVlen]<;>omega)|fail) only[VV0,VV1,VV2,VV3,VV4,VV5,VV6,VV7,VV8,VV9,mkFnV,vargs,slotsL,opdsA,Nat.reduceEqDiff,Nat.reduceLT,Nat.reduceAdd,Nat.reduceBEq,Int.reduceAdd,Int.reduceSub,Int.reduceLT,Int.reduceLE,Int.reduceEq,Int.reduceNeg,↓reduceIte,reduceCtorEq,scL,scD,expand,List.replicate,c19l1])|apply gC_drawW|((first|apply gI_dec|apply gG_dec|apply gPG_dec|apply gI_var|apply gG_var|apply gPG_var)<;>intro _))
  rw[rowsT_all]
  refine finA (snap_t (snap_3 (a':=strs 4 S) (b':=strs 4 N) (c':=rowsV 4 4 (snpM M step)) (snap_grD (n:=S.length) (l:=S.map sD) rfl (by simp)) (snap_grD (n:=N.length) (l:=N.map sD) rfl (by simp)) ?_)) rfl rfl rfl h0
  have eM:(snpM M step).length=M.length:=by simp
  rw[show rowsV 4 4 (snpM M step)= .sl 4 M.length ((snpM M step).map (rowI 4)) by show V.sl 4 _ _=_;rw[eM]]
  exact snap_grD rfl (by simp)
theorem rsnap_big (S N:List (List UInt8)) (M:List (List Int)) (hm:Mod S N M) (step:Int) (h:Val S N M) (h1:1≤step) (h2:step≤10000) (hf:fitM step M M.length=false):
 VSpec (EN w (n+4)) 19 [tableV 3 3 3 1 S N M,iN step] (.tup [noT,iN 16]) ⟨[],0,0⟩:=by
 refine vspec_flat rfl rfl (fun _ _=>rfl) (Nat.le_of_ble_eq_true rfl) (oldVals w) rfl fun C hC h0=>?_
 have hc:=rcheck_p w n 3 3 3 1 S N M hm
 rw[(val_iff S N M).2 h] at hc
 have hS:=h.s
 have hN:=h.n
 have hM:M.length≤30:=by have:=h.m;omega
 have s1:∀ H:VHp,srcOf H 1 (strs 3 S)=some (S.length,S.map sD,[]):=fun H=>srcOf_sl H 1 _ _ _ (by simp)
 have s2:∀ H:VHp,srcOf H 1 (strs 3 N)=some (N.length,N.map sD,[]):=fun H=>srcOf_sl H 1 _ _ _ (by simp)
 have okS:okL (S.map sD)=true:=okL_map _ (fun _=>rfl) _
 have okN:okL (N.map sD)=true:=okL_map _ (fun _=>rfl) _
 have nS:S.length ≠ 0:=by have:=h.s1;omega
 have nN:N.length ≠ 0:=by have:=h.n1;omega
 have hno:¬ ∀ j,j<M.length→∀ k,k<M[j]!.length→snp step M[j]![k]! ≤1000000:=fun hh=>by rw[(fitM_iff step M M.length).2 hh] at hf;cases hf
 repeat' (first|(simp (disch:=first|omega|assumption|exact bd (by with_unfolding_all rfl)|exact Or.inl rfl|exact Or.inl trivial|exact okL_map _ (fun _=>rfl) _|(simp only[VVlen]<;>omega)|fail) only[VV0,VV1,VV2,VV3,VV4,VV5,VV6,VV7,VV8,VV9,mkFnV,vargs,slotsL,opdsA,Nat.reduceEqDiff,Nat.reduceLT,Nat.reduceAdd,Nat.reduceBEq,Int.reduceAdd,Int.reduceSub,Int.reduceLT,Int.reduceLE,Int.reduceEq,Int.reduceNeg,↓reduceIte,reduceCtorEq,scL,scD,expand,List.replicate,c19])|apply gC_drawW|((first|apply gI_dec|apply gG_dec|apply gPG_dec|apply gI_var|apply gG_var|apply gPG_var)<;>intro _))
 refine callV_flat (by rw[hC];exact hc.flat rfl rfl) ?_
 repeat' (first|(simp (disch:=first|omega|assumption|exact bd (by with_unfolding_all rfl)|exact Or.inl rfl|exact Or.inl trivial|exact okL_map _ (fun _=>rfl) _|(simp only[VVlen]<;>omega)|fail) only[VV0,VV1,VV2,VV3,VV4,VV5,VV6,VV7,VV8,VV9,mkFnV,vargs,slotsL,opdsA,Nat.reduceEqDiff,Nat.reduceLT,Nat.reduceAdd,Nat.reduceBEq,Int.reduceAdd,Int.reduceSub,Int.reduceLT,Int.reduceLE,Int.reduceEq,Int.reduceNeg,↓reduceIte,reduceCtorEq,scL,scD,expand,List.replicate,s1,s2,vd_app,dAppX_gr,dApp_gr,dAppO_one])|apply gC_drawW|((first|apply gI_dec|apply gG_dec|apply gPG_dec|apply gI_var|apply gG_var|apply gPG_var)<;>intro _))
 all_goals try (exfalso;omega)
 have hnil:∀ {fr:VFr},Weak C fr ⟨[(2,.box 25 1 [.gr 2 3 S.length,.gr 2 4 N.length,nilS]),(4,.gro 9 1 false (N.map sD)),(3,.gro 9 1 false (S.map sD)),(1,.box 25 1 [nilS,nilS,nilS]),(0,tabO 3 3 3 1 S N M)],5,0⟩ fr
   ⟨[(5,.gro 39 1 false (rowsT M step 0)),(2,.box 25 1 [.gr 2 3 S.length,.gr 2 4 N.length,.gr 2 5 0]),(4,.gro 9 1 false (N.map sD)),(3,.gro 9 1 false (S.map sD)),(1,.box 25 1 [nilS,nilS,nilS]),(0,tabO 3 3 3 1 S N M)],6,0⟩:=fun {fr}=>
  weak_nilCell (l:= [.gr 2 3 S.length,.gr 2 4 N.length,nilS]) 2 25 1 2 39 1 rfl rfl (show (2:Nat) ≠ 5 from by decide)
 refine gL_weak ((weak_to [(6,2),(5,4),(3,3),(1,1),(0,0)] 5 h0 rfl rfl rfl rfl).trans hnil) ?_
 refine g_while (fun m fr st=>∃ j:Nat,m=M.length - j∧j≤M.length∧(∀ i,i<j→∀ k,k<M[i]!.length→snp step M[i]![k]! ≤1000000)∧fr= [(1,iN step),(2,.ptr 0 0),(4,.ptr 1 0),(7,.ptr 2 0),(8,iN j)]∧
  st=⟨[(5,.gro 39 1 false (rowsT M step j)),(2,.box 25 1 [.gr 2 3 S.length,.gr 2 4 N.length,.gr 2 5 j]),(4,.gro 9 1 false (N.map sD)),(3,.gro 9 1 false (S.map sD)),(1,.box 25 1 [nilS,nilS,nilS]),(0,tabO 3 3 3 1 S N M)],6,0⟩) M.length ?_ ⟨_,_,.refl _ _,0,by omega,Nat.zero_le _,by omega,rfl,rfl⟩ ?_
 ·rw[hC,callP_rounds];unfold many;omega
 rintro m fr st ⟨j,rfl,hj,hall,rfl,rfl⟩
 by_cases hlt:j<M.length
 ·have hr:=h.row hlt
  have eT:=rowsT_succ M step j
  have lT:(rowsT M step j).length=j:=by simp[rowsT]
  have oT:okL (rowsT M step j)=true:=okL_map _ (fun _=>rfl) _
  have hk1:=fun hh=>lt_succ_cases hall (k:=j) (P:=fun i=>∀ k,k<M[i]!.length→snp step M[i]![k]! ≤1000000) hh
  generalize hX:M[j]! =X at*
  obtain ⟨x1,x2⟩:=hr
  have eX:(X.map (snp step)).length=X.length:=by simp
  rw[show rowI 4 (X.map (snp step))= .sl 4 X.length (snpL step X X.length) by rw[snpL_all];show D.sl 4 _ _=_;rw[eX]] at eT
  have lX:(snpL step X X.length).length=X.length:=by simp[snpL]
  have oX:okL (snpL step X X.length)=true:=okL_map _ (fun _=>rfl) _
  have nX:X.length ≠ 0:=by have:=h.s1;omega
  generalize rowsT M step j=RT at*
  repeat' (first|(simp (disch:=first|omega|assumption|exact bd (by with_unfolding_all rfl)|exact Or.inl rfl|exact Or.inl trivial|exact okL_map _ (fun _=>rfl) _|(simp only[VVlen]<;>omega)|fail) only[VV0,VV1,VV2,VV3,VV4,VV5,VV6,VV7,VV8,VV9,mkFnV,vargs,slotsL,opdsA,Nat.reduceEqDiff,Nat.reduceLT,Nat.reduceAdd,Nat.reduceBEq,Int.reduceAdd,Int.reduceSub,Int.reduceLT,Int.reduceLE,Int.reduceEq,Int.reduceNeg,↓reduceIte,reduceCtorEq,scL,scD,expand,List.replicate,c19l1,rowI_dv,hX])|apply gC_drawW|((first|apply gI_dec|apply gG_dec|apply gPG_dec|apply gI_var|apply gG_var|apply gPG_var)<;>intro _))
  all_goals try (exfalso;omega)
  refine g_while (fun m fr st=>∃ k:Nat,m=X.length - k∧k≤X.length∧(∀ i,i<k→snp step X[i]! ≤1000000)∧fr= [(1,iN step),(2,.ptr 0 0),(4,.ptr 1 0),(7,.ptr 2 0),(8,iN j),(9,.gr 2 6 k),(10,iN k)]∧
   st=⟨[(6,.gro 3 1 false (snpL step X k)),(5,.gro 39 1 false RT),(2,.box 25 1 [.gr 2 3 S.length,.gr 2 4 N.length,.gr 2 5 j]),(4,.gro 9 1 false (N.map sD)),(3,.gro 9 1 false (S.map sD)),(1,.box 25 1 [nilS,nilS,nilS]),(0,tabO 3 3 3 1 S N M)],7,0⟩) X.length ?_ ⟨_,_,weak_nilSlot 9 3 1 rfl,0,by omega,Nat.zero_le _,by omega,rfl,rfl⟩ ?_
  ·rw[hC,callP_rounds];unfold many;omega
  rintro m fr st ⟨k,rfl,hk,hin,rfl,rfl⟩
  by_cases hkt:k<X.length
  ·have ew:=snpL_succ step X k
   have hL:(snpL step X k).length=k:=by simp[snpL]
   have hok2:okL (snpL step X k)=true:=okL_map _ (fun _=>rfl) _
   have hget:∀ y:Int,dload (snpL step X k++ [.sc (.int .i64 y)]) k none=some (iN y):=fun y=>by
    simp only[dload,lget_eq];rw[List.getElem?_append_right (by omega),hL];simp[dv]
   have hk2:=fun hh=>lt_succ_cases hin (k:=k) (P:=fun i=>snp step X[i]! ≤1000000) hh
   generalize snpL step X k=L at*
   have hv:=x2 k hkt
   generalize hv':X[k]! =v at*
   have hbd:=snp_bd h1 h2 hv.1 hv.2.1
   have hnp:=near_p w (n+2) v step hv.1 (by omega) h1 (by omega)
   have e5:snp step v=step*near v step:=rfl
   rw[e5] at ew hbd
   obtain ⟨b1,b2,b3,b4⟩:=hbd
   have b5:0≤near v step∧near v step≤2010000:=⟨b1,b2⟩
   generalize near v step=q at*
   clear b1 b2
   rw[show snp step v=step*q from e5] at hk2
   by_cases hle:step*q≤1000000
   ·repeat' (first|(simp (disch:=first|omega|assumption|exact bd (by with_unfolding_all rfl)|exact Or.inl rfl|exact Or.inl trivial|exact okL_map _ (fun _=>rfl) _|(simp only[VVlen]<;>omega)|fail) only[VV0,VV1,VV2,VV3,VV4,VV5,VV6,VV7,VV8,VV9,mkFnV,vargs,slotsL,opdsA,Nat.reduceEqDiff,Nat.reduceLT,Nat.reduceAdd,Nat.reduceBEq,Int.reduceAdd,Int.reduceSub,Int.reduceLT,Int.reduceLE,Int.reduceEq,Int.reduceNeg,↓reduceIte,reduceCtorEq,scL,scD,expand,List.replicate,c19l0,rowI_dv,hX,iD_dv,hv'])|apply gC_drawW|((first|apply gI_dec|apply gG_dec|apply gPG_dec|apply gI_var|apply gG_var|apply gPG_var)<;>intro _))
    all_goals try (exfalso;omega)
    refine callV_flat (by rw[hC];exact hnp.flat rfl rfl) ?_
    repeat' (first|(simp (disch:=first|omega|assumption|exact bd (by with_unfolding_all rfl)|exact Or.inl rfl|exact Or.inl trivial|exact okL_map _ (fun _=>rfl) _|(simp only[VVlen]<;>omega)|fail) only[VV0,VV1,VV2,VV3,VV4,VV5,VV6,VV7,VV8,VV9,mkFnV,vargs,slotsL,opdsA,Nat.reduceEqDiff,Nat.reduceLT,Nat.reduceAdd,Nat.reduceBEq,Int.reduceAdd,Int.reduceSub,Int.reduceLT,Int.reduceLE,Int.reduceEq,Int.reduceNeg,↓reduceIte,reduceCtorEq,scL,scD,expand,List.replicate,hget,vd_app,dAppX_gr,dApp_gr,dAppO_one])|apply gC_drawW|((first|apply gI_dec|apply gG_dec|apply gPG_dec|apply gI_var|apply gG_var|apply gPG_var)<;>intro _))
    all_goals try (exfalso;omega)
    refine ⟨_,_,_,by omega,weak_to [(8,6),(5,5),(2,2),(4,4),(3,3),(1,1),(0,0)] 7 h0 rfl rfl rfl rfl,k+1,rfl,hkt,hk2 hle,?_,?_⟩
    ·simp[renF,vren,vrenL,aget_cons]
    ·rw[← ew];simp[renH,aget_cons,renO,iD,vren,vrenL]
   ·repeat' (first|(simp (disch:=first|omega|assumption|exact bd (by with_unfolding_all rfl)|exact Or.inl rfl|exact Or.inl trivial|exact okL_map _ (fun _=>rfl) _|(simp only[VVlen]<;>omega)|fail) only[VV0,VV1,VV2,VV3,VV4,VV5,VV6,VV7,VV8,VV9,mkFnV,vargs,slotsL,opdsA,Nat.reduceEqDiff,Nat.reduceLT,Nat.reduceAdd,Nat.reduceBEq,Int.reduceAdd,Int.reduceSub,Int.reduceLT,Int.reduceLE,Int.reduceEq,Int.reduceNeg,↓reduceIte,reduceCtorEq,scL,scD,expand,List.replicate,c19l0,rowI_dv,hX,iD_dv,hv'])|apply gC_drawW|((first|apply gI_dec|apply gG_dec|apply gPG_dec|apply gI_var|apply gG_var|apply gPG_var)<;>intro _))
    all_goals try (exfalso;omega)
    refine callV_flat (by rw[hC];exact hnp.flat rfl rfl) ?_
    repeat' (first|(simp (disch:=first|omega|assumption|exact bd (by with_unfolding_all rfl)|exact Or.inl rfl|exact Or.inl trivial|exact okL_map _ (fun _=>rfl) _|(simp only[VVlen]<;>omega)|fail) only[VV0,VV1,VV2,VV3,VV4,VV5,VV6,VV7,VV8,VV9,mkFnV,vargs,slotsL,opdsA,Nat.reduceEqDiff,Nat.reduceLT,Nat.reduceAdd,Nat.reduceBEq,Int.reduceAdd,Int.reduceSub,Int.reduceLT,Int.reduceLE,Int.reduceEq,Int.reduceNeg,↓reduceIte,reduceCtorEq,scL,scD,expand,List.replicate,hget,vd_app,dAppX_gr,dApp_gr,dAppO_one])|apply gC_drawW|((first|apply gI_dec|apply gG_dec|apply gPG_dec|apply gI_var|apply gG_var|apply gPG_var)<;>intro _))
    all_goals try (exfalso;omega)
    exact weak_flat rfl h0 rfl
  ·have:k=X.length:=by omega
   subst this
   repeat' (first|(simp (disch:=first|omega|assumption|exact bd (by with_unfolding_all rfl)|exact Or.inl rfl|exact Or.inl trivial|exact okL_map _ (fun _=>rfl) _|(simp only[VVlen]<;>omega)|fail) only[VV0,VV1,VV2,VV3,VV4,VV5,VV6,VV7,VV8,VV9,mkFnV,vargs,slotsL,opdsA,Nat.reduceEqDiff,Nat.reduceLT,Nat.reduceAdd,Nat.reduceBEq,Int.reduceAdd,Int.reduceSub,Int.reduceLT,Int.reduceLE,Int.reduceEq,Int.reduceNeg,↓reduceIte,reduceCtorEq,scL,scD,expand,List.replicate,c19l0,rowI_dv,hX])|apply gC_drawW|((first|apply gI_dec|apply gG_dec|apply gPG_dec|apply gI_var|apply gG_var|apply gPG_var)<;>intro _))
   all_goals try (exfalso;omega)
   refine ⟨_,_,_,?_,weak_to [(8,5),(2,2),(4,4),(3,3),(1,1),(0,0)] 6 h0 rfl rfl rfl rfl,j+1,rfl,hlt,hk1 hin,rfl,?_⟩
   ·omega
   ·rw[← eT];rfl
 ·have:j=M.length:=by omega
  subst this
  exact absurd hall hno
end
end Go.Proofs.Yteibgbbfcjgjiaa
