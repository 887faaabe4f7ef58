/- Part of the proof of CodeLines: for every input the law returns true.
   Texts: K33q, K33u, K33v, K33w, K33x, K33y.
-/
import Derived.Test.YtbefpfbidgfipaaDoorPart5
import Derived.Test.YtbefpfbidgfipaaDoorCards
import Derived.Test.YtbefpfbidgfipaaDoorTie
import Derived.SizedLaws
import Derived.ChangeAt
import Derived.SevenTiedAt
import Derived.Stop.Joined
import Derived.Lay
namespace Go.Proofs.YtbefpfbidgfipaaDoor
open Go Go.Itp
set_option maxRecDepth 100000
set_option maxHeartbeats 4000000
set_option linter.unusedSimpArgs false
set_option linter.unusedVariables false
theorem wordsD_snd {op:Nat} (h:op<10):dload wordsD (op*2+1) none=some (strV (partsI op)):=by
 rcases (by omega:op=0∨op=1∨op=2∨op=3∨op=4∨op=5∨op=6∨op=7∨op=8∨op=9) with rfl|rfl|rfl|rfl|rfl|rfl|rfl|rfl|rfl|rfl<;>rfl
attribute [local irreducible] wordsD
theorem cutB_len (c:UInt8) (l:List UInt8):(cutB c l).1.length≤l.length∧(cutB c l).2.1.length≤l.length:=by
 unfold cutB
 split
 ·constructor<;>simp
  omega
 ·exact ⟨Nat.le_refl _,Nat.zero_le _⟩
theorem cutB_app {c:UInt8} {a:List UInt8} (r:List UInt8) (h:c ∉ a):cutB c (a++c::r)=(a,r,true):=by
 have hi:=idxB_app r h
 unfold cutB
 rw[if_pos (by omega),hi]
 simp
theorem cutB_free {c:UInt8} {a:List UInt8} (h:c ∉ a):cutB c a=(a,[],false):=by
 have hi:=idxB_free h
 unfold cutB
 rw[if_neg (by omega)]
theorem cutB_head {i0:Ins} (h:InsP i0):(cutB 32 (textI i0)).1=nameI i0.op∧(cutB 32 (textI i0)).2.1=restT i0 0:=by
 rw[textI_eq h,cutB_app _ (nameI_no _).1]
 exact ⟨rfl,rfl⟩
theorem cutB_rest (i0:Ins) (k:Nat) (h:k<(partsI i0.op).length):(cutB 32 (restT i0 k)).1=partT i0 (partsI i0.op)[k]! ∧(cutB 32 (restT i0 k)).2.1=restT i0 (k+1):=by
 by_cases hk:k+1=(partsI i0.op).length
 ·obtain ⟨h1,h2⟩:=restT_last i0 k hk
  rw[h1,h2,cutB_free (partT_no _ _).1]
  exact ⟨rfl,rfl⟩
 ·rw[restT_more i0 k (by omega),cutB_app _ (partT_no _ _).1]
  exact ⟨rfl,rfl⟩
def resI:Option Ins→V
 |some i=> .tup [insV i,.sc (.int .i64 0)]
 |none=> .tup [insV ins0,.sc (.int .i64 12)]
section
variable (w:World) (n:Nat)
theorem read_none {C:Ctx} (hC:C.E=EN w (n+5)) (h0:C.w0.nx=0) (s:List UInt8) (hs:s.length≤1000000) (hix:idxN (cutB 32 s).1 10<1):gC C c10.code [] (vargs 0 [strV s]) ⟨[],0,0⟩ (RetV C c10.res (resI none) ⟨[],0,0⟩):=by
 have hcut:=cut_p w n s 32 (by omega)
 have hio:∀ st:VSt,aget st.own 1=some (.box 9 1 [strV (cutB 32 s).1])→1 ≠ st.next→aget st.own 2=some (.row 59 2 false false wordsD)→VSpecO (EN w (n+5)) 27 st [.ref 2 0 10 10,.fn 29 [] [.ptr 1 0]] (.sc (.int .i64 (idxN (cutB 32 s).1 10))):=fun st hb hn ho=>indexFunc_o w (n+3) st 1 2 1 (cutB 32 s).1 hb hn ho
 repeat' (first|(simp (disch:=first|omega|assumption|exact bd (by with_unfolding_all rfl)|exact Or.inl rfl|exact Or.inl trivial|exact okL_map _ (fun _=>rfl) _|(simp only[VVlen]<;>omega)|fail) only[VV0,VV1,VV2,VV3,VV4,VV5,VV6,VV7,VV8,VV9,mkFnV,vargs,slotsL,opdsA,Nat.reduceEqDiff,Nat.reduceLT,Nat.reduceAdd,Nat.reduceBEq,Int.reduceAdd,Int.reduceSub,Int.reduceLT,Int.reduceLE,Int.reduceEq,Int.reduceNeg,↓reduceIte,reduceCtorEq,scL,scD,expand,List.replicate,c10])|apply gC_drawW|((first|apply gI_dec|apply gG_dec|apply gPG_dec|apply gI_var|apply gG_var|apply gPG_var)<;>intro _))
 refine callV_flat (by rw[hC];exact hcut.flat rfl rfl) ?_
 repeat' (first|(simp (disch:=first|omega|assumption|exact bd (by with_unfolding_all rfl)|exact Or.inl rfl|exact Or.inl trivial|exact okL_map _ (fun _=>rfl) _|(simp only[VVlen]<;>omega)|fail) only[VV0,VV1,VV2,VV3,VV4,VV5,VV6,VV7,VV8,VV9,mkFnV,vargs,slotsL,opdsA,Nat.reduceEqDiff,Nat.reduceLT,Nat.reduceAdd,Nat.reduceBEq,Int.reduceAdd,Int.reduceSub,Int.reduceLT,Int.reduceLE,Int.reduceEq,Int.reduceNeg,↓reduceIte,reduceCtorEq,scL,scD,expand,List.replicate])|apply gC_drawW|((first|apply gI_dec|apply gG_dec|apply gPG_dec|apply gI_var|apply gG_var|apply gPG_var)<;>intro _))
 refine callV_of (by rw[hC];exact codewords_p w (n+4)) rfl rfl rfl ?_
 repeat' (first|(simp (disch:=first|omega|assumption|exact bd (by with_unfolding_all rfl)|exact Or.inl rfl|exact Or.inl trivial|exact okL_map _ (fun _=>rfl) _|(simp only[VVlen]<;>omega)|fail) only[VV0,VV1,VV2,VV3,VV4,VV5,VV6,VV7,VV8,VV9,mkFnV,vargs,slotsL,opdsA,Nat.reduceEqDiff,Nat.reduceLT,Nat.reduceAdd,Nat.reduceBEq,Int.reduceAdd,Int.reduceSub,Int.reduceLT,Int.reduceLE,Int.reduceEq,Int.reduceNeg,↓reduceIte,reduceCtorEq,scL,scD,expand,List.replicate,vsh,vshL,shH,shO,fzSL,fzS])|apply gC_drawW|((first|apply gI_dec|apply gG_dec|apply gPG_dec|apply gI_var|apply gG_var|apply gPG_var)<;>intro _))
 refine callV_flat (by rw[hC];exact hio _ rfl (show (1:Nat) ≠ 3 from by decide) rfl) ?_
 repeat' (first|(simp (disch:=first|omega|assumption|exact bd (by with_unfolding_all rfl)|exact Or.inl rfl|exact Or.inl trivial|exact okL_map _ (fun _=>rfl) _|(simp only[VVlen]<;>omega)|fail) only[VV0,VV1,VV2,VV3,VV4,VV5,VV6,VV7,VV8,VV9,mkFnV,vargs,slotsL,opdsA,Nat.reduceEqDiff,Nat.reduceLT,Nat.reduceAdd,Nat.reduceBEq,Int.reduceAdd,Int.reduceSub,Int.reduceLT,Int.reduceLE,Int.reduceEq,Int.reduceNeg,↓reduceIte,reduceCtorEq,scL,scD,expand,List.replicate])|apply gC_drawW|((first|apply gI_dec|apply gG_dec|apply gPG_dec|apply gI_var|apply gG_var|apply gPG_var)<;>intro _))
 all_goals try (exfalso;omega)
 exact weak_flat rfl h0 rfl
abbrev readH (op:Nat) (k:Nat) (i:Ins):VHp:= [(2,itO ⟨(partsI op).toArray⟩ k),(1,insB' i),(0,insB' ins0)]
abbrev readQ (s:List UInt8) (op k:Nat) (rest:List UInt8) (i:Ins):Prop:=∀ i0,InsP i0→s=textI i0→i0.op=op∧rest=restT i0 k∧i=partI i0 k
theorem read_loop {C:Ctx} (hC:C.E=EN w (n+5)) (h0:C.w0.nx=0) (hes:(errO Tryd.prog w "strconv.ErrSyntax").isSome=true) (her:(errO Tryd.prog w "strconv.ErrRange").isSome=true) (s:List UInt8) (hs:s.length≤1000000) (op:Nat) (hop:0<op) (hop2:op<10) {K:List KF} {P:VPost}
  (hgo:∀ i:Ins,(∀ i0,InsP i0→s=textI i0→i=i0)→∀ rest,gK C K (.exit 0) [(0,strV s),(2,.ptr 0 0),(5,strV rest),(8,.ptr 1 0),(32,.ptr 2 0),(33,.tup [.sc (.bool false)]),(34,.sc (.bool false))] ⟨readH op (partsI op).length i,3,0⟩ P)
  {fr0:VFr} {st0:VSt} {rest0:List UInt8} {i1:Ins} (hr0:rest0.length≤s.length) (hq0:readQ s op 0 rest0 i1) (hst:Weak C fr0 st0 [(0,strV s),(2,.ptr 0 0),(5,strV rest0),(8,.ptr 1 0),(32,.ptr 2 0)] ⟨readH op 0 i1,3,0⟩):
  gL C [0,2,5,8,32] c10l0 K fr0 st0 P:=by
 have hrn:C.E.rounds=many:=by rw[hC,callP_rounds]
 have hpl:=partsI_len hop2
 refine g_while (fun m fr st=>∃ (p r rest:List UInt8) (i:Ins),m=r.length∧partsI op=p++r∧rest.length≤s.length∧readQ s op p.length rest i∧fr= [(0,strV s),(2,.ptr 0 0),(5,strV rest),(8,.ptr 1 0),(32,.ptr 2 0)]∧st=⟨readH op p.length i,3,0⟩) (partsI op).length ?_ ⟨_,_,hst,[],_,_,_,rfl,rfl,hr0,hq0,rfl,rfl⟩ ?_
 ·rw[hrn];unfold many;omega
 rintro m fr st ⟨p,r,rest,i,rfl,hs1,hrl,hq,rfl,rfl⟩
 have hsl:(partsI op).length=p.length+r.length:=by rw[hs1];simp
 cases r with
 |nil=>
  rw[List.append_nil] at hs1
  have hnx:=next_end (partsI op) (by omega) (readH op p.length i) 3 2 (by show some (itO ⟨(partsI op).toArray⟩ p.length)=_;rw[hs1])
  have hgo:=hgo i (fun i0 h1 h2=>by
   obtain ⟨a,_,b⟩:=hq i0 h1 h2
   rw[b,← hs1,← a]
   exact partI_full h1) rest
  rw[show (partsI op).length=p.length from by rw[hs1]] at hgo
  repeat' (first|(simp (disch:=first|omega|assumption|exact bd (by with_unfolding_all rfl)|exact Or.inl rfl|exact Or.inl trivial|exact okL_map _ (fun _=>rfl) _|(simp only[VVlen]<;>omega)|fail) only[VV0,VV1,VV2,VV3,VV4,VV5,VV6,VV7,VV8,VV9,mkFnV,vargs,slotsL,opdsA,Nat.reduceEqDiff,Nat.reduceLT,Nat.reduceAdd,Nat.reduceBEq,Int.reduceAdd,Int.reduceSub,Int.reduceLT,Int.reduceLE,Int.reduceEq,Int.reduceNeg,↓reduceIte,reduceCtorEq,scL,scD,expand,List.replicate,c10l0,pv_nextS,wv_nextS,hnx])|apply gC_drawW|((first|apply gI_dec|apply gG_dec|apply gPG_dec|apply gI_var|apply gG_var|apply gPG_var)<;>intro _))
  exact hgo
 |cons b r3=>
  have hmem:b ∈ partsI op:=by rw[hs1];simp
  have hb:=partsI_mem hop2 b hmem
  have hb128:b.toNat<128:=by rcases hb with rfl|rfl|rfl|rfl|rfl<;>decide
  have hnx:=next_small (partsI op) p r3 b hs1 hb128 (by omega) (readH op p.length i) 3 2 rfl
  have hat:(partsI op)[p.length]! =b:=by rw[hs1];exact at_mid p r3 b
  have hlt:p.length<(partsI op).length:=by rw[hsl];simp
  have hcut:=cut_p w n rest 32 (by omega)
  have hcl:=cutB_len 32 rest
  have hqc:∀ i0,InsP i0→s=textI i0→(cutB 32 rest).1=partT i0 b∧(cutB 32 rest).2.1=restT i0 (p.length+1):=fun i0 h1 h2=>by
   obtain ⟨a,c,_⟩:=hq i0 h1 h2
   rw[c]
   have:=cutB_rest i0 p.length (by rw[a];exact hlt)
   rw[a,hat] at this
   exact this
  generalize hcu:(cutB 32 rest).1=wd at*
  generalize hcr:(cutB 32 rest).2.1=rest' at*
  generalize hcb:(cutB 32 rest).2.2=fd at*
  have hdone:∀ (i':Ins) (fr:VFr) (st:VSt),(∀ i0,InsP i0→s=textI i0→i'=setP i0 i b)→Weak C fr st [(0,strV s),(2,.ptr 0 0),(5,strV rest'),(8,.ptr 1 0),(32,.ptr 2 0)] ⟨readH op (p.length+1) i',3,0⟩→
    ∃ m' fr' st',m'<(b::r3).length∧Weak C fr st fr' st'∧∃ (p r rest:List UInt8) (i:Ins),m'=r.length∧partsI op=p++r∧rest.length≤s.length∧readQ s op p.length rest i∧fr'= [(0,strV s),(2,.ptr 0 0),(5,strV rest),(8,.ptr 1 0),(32,.ptr 2 0)]∧st'=⟨readH op p.length i,3,0⟩:=fun i' fr st hi hw=>by
   have hpl1:(p++ [b]).length=p.length+1:=by simp
   refine ⟨r3.length,_,_,by simp,hw,p++ [b],r3,rest',i',rfl,by rw[hs1];simp,by omega,fun i0 h1 h2=>?_,rfl,by rw[hpl1]⟩
   obtain ⟨a,c,d⟩:=hq i0 h1 h2
   rw[hpl1]
   refine ⟨a,(hqc i0 h1 h2).2,?_⟩
   rw[hi i0 h1 h2,d,partI_succ i0 p.length (by rw[a];exact hlt),a,hat]
  have d100:(((100:UInt8).toNat:Nat):Int)=100:=rfl
  have d110:(((110:UInt8).toNat:Nat):Int)=110:=rfl
  have d111:(((111:UInt8).toNat:Nat):Int)=111:=rfl
  have d99:(((99:UInt8).toNat:Nat):Int)=99:=rfl
  have d114:(((114:UInt8).toNat:Nat):Int)=114:=rfl
  have h43:(⟨#[43]⟩:ByteArray)=⟨([43]:List UInt8).toArray⟩:=rfl
  have hwl:wd.length≤1000000:=by omega
  rcases hb with rfl|rfl|rfl|rfl|rfl
  ·repeat' (first|(simp (disch:=first|omega|assumption|exact bd (by with_unfolding_all rfl)|exact Or.inl rfl|exact Or.inl trivial|exact okL_map _ (fun _=>rfl) _|(simp only[VVlen]<;>omega)|fail) only[VV0,VV1,VV2,VV3,VV4,VV5,VV6,VV7,VV8,VV9,mkFnV,vargs,slotsL,opdsA,Nat.reduceEqDiff,Nat.reduceLT,Nat.reduceAdd,Nat.reduceBEq,Int.reduceAdd,Int.reduceSub,Int.reduceLT,Int.reduceLE,Int.reduceEq,Int.reduceNeg,↓reduceIte,reduceCtorEq,scL,scD,expand,List.replicate,c10l0,pv_nextS,wv_nextS,hnx,d100,d110,d111,d99,d114])|apply gC_drawW|((first|apply gI_dec|apply gG_dec|apply gPG_dec|apply gI_var|apply gG_var|apply gPG_var)<;>intro _))
   refine callV_flat (by rw[hC];exact hcut.flat rfl rfl) ?_
   repeat' (first|(simp (disch:=first|omega|assumption|exact bd (by with_unfolding_all rfl)|exact Or.inl rfl|exact Or.inl trivial|exact okL_map _ (fun _=>rfl) _|(simp only[VVlen]<;>omega)|fail) only[VV0,VV1,VV2,VV3,VV4,VV5,VV6,VV7,VV8,VV9,mkFnV,vargs,slotsL,opdsA,Nat.reduceEqDiff,Nat.reduceLT,Nat.reduceAdd,Nat.reduceBEq,Int.reduceAdd,Int.reduceSub,Int.reduceLT,Int.reduceLE,Int.reduceEq,Int.reduceNeg,↓reduceIte,reduceCtorEq,scL,scD,expand,List.replicate,d100,d110,d111,d99,d114,h43,mk_inj])|apply gC_drawW|((first|apply gI_dec|apply gG_dec|apply gPG_dec|apply gI_var|apply gG_var|apply gPG_var)<;>intro _))
   refine hdone ⟨i.op,decide (wd= [43]),i.bed,i.pos,i.to,i.car,i.rack⟩ _ _ (fun i0 h1 h2=>?_) (weak_to [(2,2),(1,1),(0,0)] 3 h0 rfl rfl rfl rfl)
   rw[(hqc i0 h1 h2).1]
   unfold setP partT
   simp only[if_true]
   cases i0.right<;>rfl
  ·obtain ⟨hb,hz,hk,hble,hprop⟩:=hook_ex w (n+1) wd hwl hes her
   repeat' (first|(simp (disch:=first|omega|assumption|exact bd (by with_unfolding_all rfl)|exact Or.inl rfl|exact Or.inl trivial|exact okL_map _ (fun _=>rfl) _|(simp only[VVlen]<;>omega)|fail) only[VV0,VV1,VV2,VV3,VV4,VV5,VV6,VV7,VV8,VV9,mkFnV,vargs,slotsL,opdsA,Nat.reduceEqDiff,Nat.reduceLT,Nat.reduceAdd,Nat.reduceBEq,Int.reduceAdd,Int.reduceSub,Int.reduceLT,Int.reduceLE,Int.reduceEq,Int.reduceNeg,↓reduceIte,reduceCtorEq,scL,scD,expand,List.replicate,c10l0,pv_nextS,wv_nextS,hnx,d100,d110,d111,d99,d114])|apply gC_drawW|((first|apply gI_dec|apply gG_dec|apply gPG_dec|apply gI_var|apply gG_var|apply gPG_var)<;>intro _))
   refine callV_flat (by rw[hC];exact hcut.flat rfl rfl) ?_
   repeat' (first|(simp (disch:=first|omega|assumption|exact bd (by with_unfolding_all rfl)|exact Or.inl rfl|exact Or.inl trivial|exact okL_map _ (fun _=>rfl) _|(simp only[VVlen]<;>omega)|fail) only[VV0,VV1,VV2,VV3,VV4,VV5,VV6,VV7,VV8,VV9,mkFnV,vargs,slotsL,opdsA,Nat.reduceEqDiff,Nat.reduceLT,Nat.reduceAdd,Nat.reduceBEq,Int.reduceAdd,Int.reduceSub,Int.reduceLT,Int.reduceLE,Int.reduceEq,Int.reduceNeg,↓reduceIte,reduceCtorEq,scL,scD,expand,List.replicate,d100,d110,d111,d99,d114,h43,mk_inj])|apply gC_drawW|((first|apply gI_dec|apply gG_dec|apply gPG_dec|apply gI_var|apply gG_var|apply gPG_var)<;>intro _))
   refine callV_flat (by rw[hC];exact hk.flat rfl rfl) ?_
   repeat' (first|(simp (disch:=first|omega|assumption|exact bd (by with_unfolding_all rfl)|exact Or.inl rfl|exact Or.inl trivial|exact okL_map _ (fun _=>rfl) _|(simp only[VVlen]<;>omega)|fail) only[VV0,VV1,VV2,VV3,VV4,VV5,VV6,VV7,VV8,VV9,mkFnV,vargs,slotsL,opdsA,Nat.reduceEqDiff,Nat.reduceLT,Nat.reduceAdd,Nat.reduceBEq,Int.reduceAdd,Int.reduceSub,Int.reduceLT,Int.reduceLE,Int.reduceEq,Int.reduceNeg,↓reduceIte,reduceCtorEq,scL,scD,expand,List.replicate])|apply gC_drawW|((first|apply gI_dec|apply gG_dec|apply gPG_dec|apply gI_var|apply gG_var|apply gPG_var)<;>intro _))
   refine hdone ⟨i.op,i.right,hb,hz,i.to,i.car,i.rack⟩ _ _ (fun i0 h1 h2=>?_) (weak_to [(2,2),(1,1),(0,0)] 3 h0 rfl rfl rfl rfl)
   have hbd:=h1.bounds
   unfold ndOK at hbd
   obtain ⟨e1,e2⟩:=hprop i0.bed i0.pos hbd.1 (by omega) (by omega) (hqc i0 h1 h2).1
   rw[e1,e2]
   rfl
  ·obtain ⟨hb,hz,hk,hble,hprop⟩:=hook_ex w (n+1) wd hwl hes her
   repeat' (first|(simp (disch:=first|omega|assumption|exact bd (by with_unfolding_all rfl)|exact Or.inl rfl|exact Or.inl trivial|exact okL_map _ (fun _=>rfl) _|(simp only[VVlen]<;>omega)|fail) only[VV0,VV1,VV2,VV3,VV4,VV5,VV6,VV7,VV8,VV9,mkFnV,vargs,slotsL,opdsA,Nat.reduceEqDiff,Nat.reduceLT,Nat.reduceAdd,Nat.reduceBEq,Int.reduceAdd,Int.reduceSub,Int.reduceLT,Int.reduceLE,Int.reduceEq,Int.reduceNeg,↓reduceIte,reduceCtorEq,scL,scD,expand,List.replicate,c10l0,pv_nextS,wv_nextS,hnx,d100,d110,d111,d99,d114])|apply gC_drawW|((first|apply gI_dec|apply gG_dec|apply gPG_dec|apply gI_var|apply gG_var|apply gPG_var)<;>intro _))
   refine callV_flat (by rw[hC];exact hcut.flat rfl rfl) ?_
   repeat' (first|(simp (disch:=first|omega|assumption|exact bd (by with_unfolding_all rfl)|exact Or.inl rfl|exact Or.inl trivial|exact okL_map _ (fun _=>rfl) _|(simp only[VVlen]<;>omega)|fail) only[VV0,VV1,VV2,VV3,VV4,VV5,VV6,VV7,VV8,VV9,mkFnV,vargs,slotsL,opdsA,Nat.reduceEqDiff,Nat.reduceLT,Nat.reduceAdd,Nat.reduceBEq,Int.reduceAdd,Int.reduceSub,Int.reduceLT,Int.reduceLE,Int.reduceEq,Int.reduceNeg,↓reduceIte,reduceCtorEq,scL,scD,expand,List.replicate,d100,d110,d111,d99,d114,h43,mk_inj])|apply gC_drawW|((first|apply gI_dec|apply gG_dec|apply gPG_dec|apply gI_var|apply gG_var|apply gPG_var)<;>intro _))
   refine callV_flat (by rw[hC];exact hk.flat rfl rfl) ?_
   repeat' (first|(simp (disch:=first|omega|assumption|exact bd (by with_unfolding_all rfl)|exact Or.inl rfl|exact Or.inl trivial|exact okL_map _ (fun _=>rfl) _|(simp only[VVlen]<;>omega)|fail) only[VV0,VV1,VV2,VV3,VV4,VV5,VV6,VV7,VV8,VV9,mkFnV,vargs,slotsL,opdsA,Nat.reduceEqDiff,Nat.reduceLT,Nat.reduceAdd,Nat.reduceBEq,Int.reduceAdd,Int.reduceSub,Int.reduceLT,Int.reduceLE,Int.reduceEq,Int.reduceNeg,↓reduceIte,reduceCtorEq,scL,scD,expand,List.replicate])|apply gC_drawW|((first|apply gI_dec|apply gG_dec|apply gPG_dec|apply gI_var|apply gG_var|apply gPG_var)<;>intro _))
   refine hdone ⟨i.op,i.right,i.bed,i.pos,hz,i.car,i.rack⟩ _ _ (fun i0 h1 h2=>?_) (weak_to [(2,2),(1,1),(0,0)] 3 h0 rfl rfl rfl rfl)
   have hbd:=h1.bounds
   unfold ndOK at hbd
   obtain ⟨e1,e2⟩:=hprop (1 - i0.bed) i0.to (by omega) (by omega) (by omega) (hqc i0 h1 h2).1
   rw[e2]
   rfl
  ·obtain ⟨hz,hprop,hk⟩:=atoi_ex w (n+4) wd hwl hes her
   repeat' (first|(simp (disch:=first|omega|assumption|exact bd (by with_unfolding_all rfl)|exact Or.inl rfl|exact Or.inl trivial|exact okL_map _ (fun _=>rfl) _|(simp only[VVlen]<;>omega)|fail) only[VV0,VV1,VV2,VV3,VV4,VV5,VV6,VV7,VV8,VV9,mkFnV,vargs,slotsL,opdsA,Nat.reduceEqDiff,Nat.reduceLT,Nat.reduceAdd,Nat.reduceBEq,Int.reduceAdd,Int.reduceSub,Int.reduceLT,Int.reduceLE,Int.reduceEq,Int.reduceNeg,↓reduceIte,reduceCtorEq,scL,scD,expand,List.replicate,c10l0,pv_nextS,wv_nextS,hnx,d100,d110,d111,d99,d114])|apply gC_drawW|((first|apply gI_dec|apply gG_dec|apply gPG_dec|apply gI_var|apply gG_var|apply gPG_var)<;>intro _))
   refine callV_flat (by rw[hC];exact hcut.flat rfl rfl) ?_
   repeat' (first|(simp (disch:=first|omega|assumption|exact bd (by with_unfolding_all rfl)|exact Or.inl rfl|exact Or.inl trivial|exact okL_map _ (fun _=>rfl) _|(simp only[VVlen]<;>omega)|fail) only[VV0,VV1,VV2,VV3,VV4,VV5,VV6,VV7,VV8,VV9,mkFnV,vargs,slotsL,opdsA,Nat.reduceEqDiff,Nat.reduceLT,Nat.reduceAdd,Nat.reduceBEq,Int.reduceAdd,Int.reduceSub,Int.reduceLT,Int.reduceLE,Int.reduceEq,Int.reduceNeg,↓reduceIte,reduceCtorEq,scL,scD,expand,List.replicate,d100,d110,d111,d99,d114,h43,mk_inj])|apply gC_drawW|((first|apply gI_dec|apply gG_dec|apply gPG_dec|apply gI_var|apply gG_var|apply gPG_var)<;>intro _))
   refine atoi_call w (n+4) hC hk ?_ (fun o cs ho=>?_)
   all_goals
    try subst ho
    repeat' (first|(simp (disch:=first|omega|assumption|exact bd (by with_unfolding_all rfl)|exact Or.inl rfl|exact Or.inl trivial|exact okL_map _ (fun _=>rfl) _|(simp only[VVlen]<;>omega)|fail) only[VV0,VV1,VV2,VV3,VV4,VV5,VV6,VV7,VV8,VV9,mkFnV,vargs,slotsL,opdsA,Nat.reduceEqDiff,Nat.reduceLT,Nat.reduceAdd,Nat.reduceBEq,Int.reduceAdd,Int.reduceSub,Int.reduceLT,Int.reduceLE,Int.reduceEq,Int.reduceNeg,↓reduceIte,reduceCtorEq,scL,scD,expand,List.replicate])|apply gC_drawW|((first|apply gI_dec|apply gG_dec|apply gPG_dec|apply gI_var|apply gG_var|apply gPG_var)<;>intro _))
    refine hdone ⟨i.op,i.right,i.bed,i.pos,i.to,hz,i.rack⟩ _ _ (fun i0 h1 h2=>?_) (weak_to [(2,2),(1,1),(0,0)] 3 h0 rfl rfl rfl rfl)
    have hbd:=h1.bounds
    have e1:=hprop i0.car (by rw[(hqc i0 h1 h2).1];exact numA_itoa (by omega) (by omega))
    rw[e1]
    rfl
  ·obtain ⟨hz,hprop,hk⟩:=atoi_ex w (n+4) wd hwl hes her
   repeat' (first|(simp (disch:=first|omega|assumption|exact bd (by with_unfolding_all rfl)|exact Or.inl rfl|exact Or.inl trivial|exact okL_map _ (fun _=>rfl) _|(simp only[VVlen]<;>omega)|fail) only[VV0,VV1,VV2,VV3,VV4,VV5,VV6,VV7,VV8,VV9,mkFnV,vargs,slotsL,opdsA,Nat.reduceEqDiff,Nat.reduceLT,Nat.reduceAdd,Nat.reduceBEq,Int.reduceAdd,Int.reduceSub,Int.reduceLT,Int.reduceLE,Int.reduceEq,Int.reduceNeg,↓reduceIte,reduceCtorEq,scL,scD,expand,List.replicate,c10l0,pv_nextS,wv_nextS,hnx,d100,d110,d111,d99,d114])|apply gC_drawW|((first|apply gI_dec|apply gG_dec|apply gPG_dec|apply gI_var|apply gG_var|apply gPG_var)<;>intro _))
   refine callV_flat (by rw[hC];exact hcut.flat rfl rfl) ?_
   repeat' (first|(simp (disch:=first|omega|assumption|exact bd (by with_unfolding_all rfl)|exact Or.inl rfl|exact Or.inl trivial|exact okL_map _ (fun _=>rfl) _|(simp only[VVlen]<;>omega)|fail) only[VV0,VV1,VV2,VV3,VV4,VV5,VV6,VV7,VV8,VV9,mkFnV,vargs,slotsL,opdsA,Nat.reduceEqDiff,Nat.reduceLT,Nat.reduceAdd,Nat.reduceBEq,Int.reduceAdd,Int.reduceSub,Int.reduceLT,Int.reduceLE,Int.reduceEq,Int.reduceNeg,↓reduceIte,reduceCtorEq,scL,scD,expand,List.replicate,d100,d110,d111,d99,d114,h43,mk_inj])|apply gC_drawW|((first|apply gI_dec|apply gG_dec|apply gPG_dec|apply gI_var|apply gG_var|apply gPG_var)<;>intro _))
   refine atoi_call w (n+4) hC hk ?_ (fun o cs ho=>?_)
   all_goals
    try subst ho
    repeat' (first|(simp (disch:=first|omega|assumption|exact bd (by with_unfolding_all rfl)|exact Or.inl rfl|exact Or.inl trivial|exact okL_map _ (fun _=>rfl) _|(simp only[VVlen]<;>omega)|fail) only[VV0,VV1,VV2,VV3,VV4,VV5,VV6,VV7,VV8,VV9,mkFnV,vargs,slotsL,opdsA,Nat.reduceEqDiff,Nat.reduceLT,Nat.reduceAdd,Nat.reduceBEq,Int.reduceAdd,Int.reduceSub,Int.reduceLT,Int.reduceLE,Int.reduceEq,Int.reduceNeg,↓reduceIte,reduceCtorEq,scL,scD,expand,List.replicate])|apply gC_drawW|((first|apply gI_dec|apply gG_dec|apply gPG_dec|apply gI_var|apply gG_var|apply gPG_var)<;>intro _))
    refine hdone ⟨i.op,i.right,i.bed,i.pos,i.to,i.car,hz⟩ _ _ (fun i0 h1 h2=>?_) (weak_to [(2,2),(1,1),(0,0)] 3 h0 rfl rfl rfl rfl)
    have hbd:=h1.bounds
    have e1:=hprop i0.rack (by rw[(hqc i0 h1 h2).1];exact numA_itoa (by omega) (by omega))
    rw[e1]
    rfl
theorem readO_none {s:List UInt8} (h:∀ i,InsP i→textI i ≠ s):readO s=none:=(accI_eq (r:=none) h).symm
theorem idxN_of {s:List UInt8} {i0:Ins} (h:InsP i0) (hs:s=textI i0):idxN (cutB 32 s).1 10=i0.op:=by
 rw[hs,(cutB_head h).1]
 exact idxN_name h.op_lt.1 h.op_lt.2
theorem read_p (hes:(errO Tryd.prog w "strconv.ErrSyntax").isSome=true) (her:(errO Tryd.prog w "strconv.ErrRange").isSome=true) (s:List UInt8) (hs:s.length≤1000000):VSpec (EN w (n+6)) 10 [strV s] (resI (readO s)) ⟨[],0,0⟩:=by
 refine vspec_flat rfl rfl (fun _ _=>rfl) (Nat.le_of_ble_eq_true rfl) (oldVals w) (by cases readO s<;>rfl) fun C hC h0=>?_
 by_cases hix1:idxN (cutB 32 s).1 10<1
 ·rw[readO_none fun i0 h1 h2=>by
   have:=idxN_of h1 h2.symm
   have:=h1.op_lt
   omega]
  exact read_none w n hC h0 s hs hix1
 obtain ⟨op,hix⟩:∃ op:Nat,idxN (cutB 32 s).1 10=op:=⟨(idxN (cutB 32 s).1 10).toNat,by omega⟩
 have hrg:=idxN_range (cutB 32 s).1 10
 have hop:0<op:=by omega
 have hop2:op<10:=by omega
 have hcut:=cut_p w n s 32 (by omega)
 have hio:∀ st:VSt,aget st.own 1=some (.box 9 1 [strV (cutB 32 s).1])→1 ≠ st.next→aget st.own 2=some (.row 59 2 false false wordsD)→VSpecO (EN w (n+5)) 27 st [.ref 2 0 10 10,.fn 29 [] [.ptr 1 0]] (.sc (.int .i64 op)):=fun st hb hn ho=>by
  rw[← hix];exact indexFunc_o w (n+3) st 1 2 1 (cutB 32 s).1 hb hn ho
 have hrs:=fun nx=>rangeSV_str nx ⟨(partsI op).toArray⟩ (by have:=partsI_len hop2;rw[mk_size];omega)
 have hwu:IntKind.u8.wrap (op:Int)=op:=wrap_u8 _ (by omega) (by omega)
 have hwo:=wordsD_snd hop2
 have hcl:=cutB_len 32 s
 repeat' (first|(simp (disch:=first|omega|assumption|exact bd (by with_unfolding_all rfl)|exact Or.inl rfl|exact Or.inl trivial|exact okL_map _ (fun _=>rfl) _|(simp only[VVlen]<;>omega)|fail) only[VV0,VV1,VV2,VV3,VV4,VV5,VV6,VV7,VV8,VV9,mkFnV,vargs,slotsL,opdsA,Nat.reduceEqDiff,Nat.reduceLT,Nat.reduceAdd,Nat.reduceBEq,Int.reduceAdd,Int.reduceSub,Int.reduceLT,Int.reduceLE,Int.reduceEq,Int.reduceNeg,↓reduceIte,reduceCtorEq,scL,scD,expand,List.replicate,c10])|apply gC_drawW|((first|apply gI_dec|apply gG_dec|apply gPG_dec|apply gI_var|apply gG_var|apply gPG_var)<;>intro _))
 refine callV_flat (by rw[hC];exact hcut.flat rfl rfl) ?_
 repeat' (first|(simp (disch:=first|omega|assumption|exact bd (by with_unfolding_all rfl)|exact Or.inl rfl|exact Or.inl trivial|exact okL_map _ (fun _=>rfl) _|(simp only[VVlen]<;>omega)|fail) only[VV0,VV1,VV2,VV3,VV4,VV5,VV6,VV7,VV8,VV9,mkFnV,vargs,slotsL,opdsA,Nat.reduceEqDiff,Nat.reduceLT,Nat.reduceAdd,Nat.reduceBEq,Int.reduceAdd,Int.reduceSub,Int.reduceLT,Int.reduceLE,Int.reduceEq,Int.reduceNeg,↓reduceIte,reduceCtorEq,scL,scD,expand,List.replicate])|apply gC_drawW|((first|apply gI_dec|apply gG_dec|apply gPG_dec|apply gI_var|apply gG_var|apply gPG_var)<;>intro _))
 refine callV_of (by rw[hC];exact codewords_p w (n+4)) rfl rfl rfl ?_
 repeat' (first|(simp (disch:=first|omega|assumption|exact bd (by with_unfolding_all rfl)|exact Or.inl rfl|exact Or.inl trivial|exact okL_map _ (fun _=>rfl) _|(simp only[VVlen]<;>omega)|fail) only[VV0,VV1,VV2,VV3,VV4,VV5,VV6,VV7,VV8,VV9,mkFnV,vargs,slotsL,opdsA,Nat.reduceEqDiff,Nat.reduceLT,Nat.reduceAdd,Nat.reduceBEq,Int.reduceAdd,Int.reduceSub,Int.reduceLT,Int.reduceLE,Int.reduceEq,Int.reduceNeg,↓reduceIte,reduceCtorEq,scL,scD,expand,List.replicate,vsh,vshL,shH,shO,fzSL,fzS])|apply gC_drawW|((first|apply gI_dec|apply gG_dec|apply gPG_dec|apply gI_var|apply gG_var|apply gPG_var)<;>intro _))
 refine callV_flat (by rw[hC];exact hio _ rfl (show (1:Nat) ≠ 3 from by decide) rfl) ?_
 repeat' (first|(simp (disch:=first|omega|assumption|exact bd (by with_unfolding_all rfl)|exact Or.inl rfl|exact Or.inl trivial|exact okL_map _ (fun _=>rfl) _|(simp only[VVlen]<;>omega)|fail) only[VV0,VV1,VV2,VV3,VV4,VV5,VV6,VV7,VV8,VV9,mkFnV,vargs,slotsL,opdsA,Nat.reduceEqDiff,Nat.reduceLT,Nat.reduceAdd,Nat.reduceBEq,Int.reduceAdd,Int.reduceSub,Int.reduceLT,Int.reduceLE,Int.reduceEq,Int.reduceNeg,↓reduceIte,reduceCtorEq,scL,scD,expand,List.replicate,hwu])|apply gC_drawW|((first|apply gI_dec|apply gG_dec|apply gPG_dec|apply gI_var|apply gG_var|apply gPG_var)<;>intro _))
 all_goals try (exfalso;omega)
 refine callV_of (by rw[hC];exact codewords_p w (n+4)) rfl rfl rfl ?_
 repeat' (first|(simp (disch:=first|omega|assumption|exact bd (by with_unfolding_all rfl)|exact Or.inl rfl|exact Or.inl trivial|exact okL_map _ (fun _=>rfl) _|(simp only[VVlen]<;>omega)|fail) only[VV0,VV1,VV2,VV3,VV4,VV5,VV6,VV7,VV8,VV9,mkFnV,vargs,slotsL,opdsA,Nat.reduceEqDiff,Nat.reduceLT,Nat.reduceAdd,Nat.reduceBEq,Int.reduceAdd,Int.reduceSub,Int.reduceLT,Int.reduceLE,Int.reduceEq,Int.reduceNeg,↓reduceIte,reduceCtorEq,scL,scD,expand,List.replicate,vsh,vshL,shH,shO,fzSL,fzS,hwo,pv_rangeS,hrs])|apply gC_drawW|((first|apply gI_dec|apply gG_dec|apply gPG_dec|apply gI_var|apply gG_var|apply gPG_var)<;>intro _))
 refine read_loop w n hC h0 hes her s hs op hop hop2 (fun i hi rest=>?_) (i1:=⟨op,false,0,0,0,0,0⟩) hcl.2 (fun i0 h1 h2=>?_) (weak_to [(5,2),(3,1),(0,0)] 3 h0 rfl rfl rfl rfl)
 ·have hbi:=binstr_p w (n+3) i
  by_cases hv:insOK i=true
  ·have hl:=line_p w (n+2) i (insOK_iff.1 hv)
   rw[if_pos hv] at hbi
   unfold insV at hbi hl
   by_cases ht:textI i=s
   ·have hr:readO s=some i:=by rw[← ht];exact readO_text (insOK_iff.1 hv)
    rw[hr]
    repeat' (first|(simp (disch:=first|omega|assumption|exact bd (by with_unfolding_all rfl)|exact Or.inl rfl|exact Or.inl trivial|exact okL_map _ (fun _=>rfl) _|(simp only[VVlen]<;>omega)|fail) only[VV0,VV1,VV2,VV3,VV4,VV5,VV6,VV7,VV8,VV9,mkFnV,vargs,slotsL,opdsA,Nat.reduceEqDiff,Nat.reduceLT,Nat.reduceAdd,Nat.reduceBEq,Int.reduceAdd,Int.reduceSub,Int.reduceLT,Int.reduceLE,Int.reduceEq,Int.reduceNeg,↓reduceIte,reduceCtorEq,scL,scD,expand,List.replicate])|apply gC_drawW|((first|apply gI_dec|apply gG_dec|apply gPG_dec|apply gI_var|apply gG_var|apply gPG_var)<;>intro _))
    refine callV_flat (by rw[hC];exact hbi.flat rfl rfl) ?_
    repeat' (first|(simp (disch:=first|omega|assumption|exact bd (by with_unfolding_all rfl)|exact Or.inl rfl|exact Or.inl trivial|exact okL_map _ (fun _=>rfl) _|(simp only[VVlen]<;>omega)|fail) only[VV0,VV1,VV2,VV3,VV4,VV5,VV6,VV7,VV8,VV9,mkFnV,vargs,slotsL,opdsA,Nat.reduceEqDiff,Nat.reduceLT,Nat.reduceAdd,Nat.reduceBEq,Int.reduceAdd,Int.reduceSub,Int.reduceLT,Int.reduceLE,Int.reduceEq,Int.reduceNeg,↓reduceIte,reduceCtorEq,scL,scD,expand,List.replicate])|apply gC_drawW|((first|apply gI_dec|apply gG_dec|apply gPG_dec|apply gI_var|apply gG_var|apply gPG_var)<;>intro _))
    refine callV_flat (by rw[hC];exact hl.flat rfl rfl) ?_
    repeat' (first|(simp (disch:=first|omega|assumption|exact bd (by with_unfolding_all rfl)|exact Or.inl rfl|exact Or.inl trivial|exact okL_map _ (fun _=>rfl) _|(simp only[VVlen]<;>omega)|fail) only[VV0,VV1,VV2,VV3,VV4,VV5,VV6,VV7,VV8,VV9,mkFnV,vargs,slotsL,opdsA,Nat.reduceEqDiff,Nat.reduceLT,Nat.reduceAdd,Nat.reduceBEq,Int.reduceAdd,Int.reduceSub,Int.reduceLT,Int.reduceLE,Int.reduceEq,Int.reduceNeg,↓reduceIte,reduceCtorEq,scL,scD,expand,List.replicate,ht])|apply gC_drawW|((first|apply gI_dec|apply gG_dec|apply gPG_dec|apply gI_var|apply gG_var|apply gPG_var)<;>intro _))
    exact weak_flat rfl h0 rfl
   ·rw[readO_none fun i0 h1 h2=>ht (by rw[hi i0 h1 h2.symm];exact h2)]
    repeat' (first|(simp (disch:=first|omega|assumption|exact bd (by with_unfolding_all rfl)|exact Or.inl rfl|exact Or.inl trivial|exact okL_map _ (fun _=>rfl) _|(simp only[VVlen]<;>omega)|fail) only[VV0,VV1,VV2,VV3,VV4,VV5,VV6,VV7,VV8,VV9,mkFnV,vargs,slotsL,opdsA,Nat.reduceEqDiff,Nat.reduceLT,Nat.reduceAdd,Nat.reduceBEq,Int.reduceAdd,Int.reduceSub,Int.reduceLT,Int.reduceLE,Int.reduceEq,Int.reduceNeg,↓reduceIte,reduceCtorEq,scL,scD,expand,List.replicate])|apply gC_drawW|((first|apply gI_dec|apply gG_dec|apply gPG_dec|apply gI_var|apply gG_var|apply gPG_var)<;>intro _))
    refine callV_flat (by rw[hC];exact hbi.flat rfl rfl) ?_
    repeat' (first|(simp (disch:=first|omega|assumption|exact bd (by with_unfolding_all rfl)|exact Or.inl rfl|exact Or.inl trivial|exact okL_map _ (fun _=>rfl) _|(simp only[VVlen]<;>omega)|fail) only[VV0,VV1,VV2,VV3,VV4,VV5,VV6,VV7,VV8,VV9,mkFnV,vargs,slotsL,opdsA,Nat.reduceEqDiff,Nat.reduceLT,Nat.reduceAdd,Nat.reduceBEq,Int.reduceAdd,Int.reduceSub,Int.reduceLT,Int.reduceLE,Int.reduceEq,Int.reduceNeg,↓reduceIte,reduceCtorEq,scL,scD,expand,List.replicate])|apply gC_drawW|((first|apply gI_dec|apply gG_dec|apply gPG_dec|apply gI_var|apply gG_var|apply gPG_var)<;>intro _))
    refine callV_flat (by rw[hC];exact hl.flat rfl rfl) ?_
    repeat' (first|(simp (disch:=first|omega|assumption|exact bd (by with_unfolding_all rfl)|exact Or.inl rfl|exact Or.inl trivial|exact okL_map _ (fun _=>rfl) _|(simp only[VVlen]<;>omega)|fail) only[VV0,VV1,VV2,VV3,VV4,VV5,VV6,VV7,VV8,VV9,mkFnV,vargs,slotsL,opdsA,Nat.reduceEqDiff,Nat.reduceLT,Nat.reduceAdd,Nat.reduceBEq,Int.reduceAdd,Int.reduceSub,Int.reduceLT,Int.reduceLE,Int.reduceEq,Int.reduceNeg,↓reduceIte,reduceCtorEq,scL,scD,expand,List.replicate,ht,mk_inj])|apply gC_drawW|((first|apply gI_dec|apply gG_dec|apply gPG_dec|apply gI_var|apply gG_var|apply gPG_var)<;>intro _))
    exact weak_flat rfl h0 rfl
  ·rw[readO_none fun i0 h1 h2=>hv (by rw[hi i0 h1 h2.symm];exact insOK_iff.2 h1)]
   rw[if_neg hv] at hbi
   unfold insV at hbi
   repeat' (first|(simp (disch:=first|omega|assumption|exact bd (by with_unfolding_all rfl)|exact Or.inl rfl|exact Or.inl trivial|exact okL_map _ (fun _=>rfl) _|(simp only[VVlen]<;>omega)|fail) only[VV0,VV1,VV2,VV3,VV4,VV5,VV6,VV7,VV8,VV9,mkFnV,vargs,slotsL,opdsA,Nat.reduceEqDiff,Nat.reduceLT,Nat.reduceAdd,Nat.reduceBEq,Int.reduceAdd,Int.reduceSub,Int.reduceLT,Int.reduceLE,Int.reduceEq,Int.reduceNeg,↓reduceIte,reduceCtorEq,scL,scD,expand,List.replicate])|apply gC_drawW|((first|apply gI_dec|apply gG_dec|apply gPG_dec|apply gI_var|apply gG_var|apply gPG_var)<;>intro _))
   refine callV_flat (by rw[hC];exact hbi.flat rfl rfl) ?_
   repeat' (first|(simp (disch:=first|omega|assumption|exact bd (by with_unfolding_all rfl)|exact Or.inl rfl|exact Or.inl trivial|exact okL_map _ (fun _=>rfl) _|(simp only[VVlen]<;>omega)|fail) only[VV0,VV1,VV2,VV3,VV4,VV5,VV6,VV7,VV8,VV9,mkFnV,vargs,slotsL,opdsA,Nat.reduceEqDiff,Nat.reduceLT,Nat.reduceAdd,Nat.reduceBEq,Int.reduceAdd,Int.reduceSub,Int.reduceLT,Int.reduceLE,Int.reduceEq,Int.reduceNeg,↓reduceIte,reduceCtorEq,scL,scD,expand,List.replicate])|apply gC_drawW|((first|apply gI_dec|apply gG_dec|apply gPG_dec|apply gI_var|apply gG_var|apply gPG_var)<;>intro _))
   exact weak_flat rfl h0 rfl
 ·have h3:=idxN_of h1 h2
  have h4:i0.op=op:=by omega
  refine ⟨h4,?_,?_⟩
  ·rw[h2];exact (cutB_head h1).2
  ·rw[partI_zero,h4]
end
end Go.Proofs.YtbefpfbidgfipaaDoor
namespace Go.Proofs.YtbefpfbidgfipaaDoor
open Go Go.Itp
set_option maxRecDepth 100000
set_option maxHeartbeats 2000000
set_option linter.unusedSimpArgs false
set_option linter.unusedVariables false
abbrev rdC1:AC:=AC.r (AC.r (AC.r (AC.r (AC.r (AC.r c11.code)))))
abbrev rdC2:AC:=AC.r rdC1
abbrev rdC3:AC:=AC.r rdC2
abbrev rdC4:AC:=AC.r rdC3
abbrev rdC5:AC:=AC.r rdC4
abbrev rdF (s:List UInt8) (ws:List (List UInt8)) (a:Nat) (e:VFr):VFr:=(0,strV s)::(2,.ptr 0 0)::(4,strs 2 ws)::(5,.ptr 1 0)::(7,.sc (.int .i64 a))::e
abbrev rdE (k:Nat) (e:VFr):Prop:=e= []∨e= [(k,.sc (.bool false))]
abbrev rdH (i:Ins):VSt:=⟨[(1,insB' i),(0,insB' ins0)],2,0⟩
section
variable (w:World) (n:Nat)
theorem rd_b1 {C:Ctx} {X:AC} {P:VPost} (s:List UInt8) (ws:List (List UInt8)) (i:Ins) (hwl:ws.length≤1000) (ho:i.op<10)
  (h1:3≤i.op∧i.op≤6∧1<ws.length→gC C X [] (rdF s ws 2 []) (rdH ⟨i.op,decide (ws[1]! = [43]),i.bed,i.pos,i.to,i.car,i.rack⟩) P)
  (h2:¬ (3≤i.op∧i.op≤6∧1<ws.length)→gC C X [] (rdF s ws 1 [(40,.sc (.bool false))]) (rdH i) P):
  gC C (.seq (AC.l rdC1) X) [] (rdF s ws 1 []) (rdH i) P:=by
 have hwm:(ws.map sD).length=ws.length:=by rw[List.length_map]
 have h43:(⟨#[43]⟩:ByteArray)=⟨([43]:List UInt8).toArray⟩:=rfl
 have t1:ws[Int.toNat 1]! =ws[1]! :=rfl
 by_cases hc:3≤i.op∧i.op≤6∧1<ws.length
 ·have h1:=h1 hc
  obtain ⟨c1,c2,c3⟩:=hc
  repeat' (first|(simp (disch:=first|omega|assumption|exact bd (by with_unfolding_all rfl)|exact Or.inl rfl|exact Or.inl trivial|exact okL_map _ (fun _=>rfl) _|(simp only[VVlen]<;>omega)|fail) only[VV0,VV1,VV2,VV3,VV4,VV5,VV6,VV7,VV8,VV9,mkFnV,vargs,slotsL,opdsA,Nat.reduceEqDiff,Nat.reduceLT,Nat.reduceAdd,Nat.reduceBEq,Int.reduceAdd,Int.reduceSub,Int.reduceLT,Int.reduceLE,Int.reduceEq,Int.reduceNeg,↓reduceIte,reduceCtorEq,scL,scD,expand,List.replicate,rdC4,rdC3,rdC2,rdC1,c11,AC.l,AC.r,sD_dv,t1,h43,mk_inj])|apply gC_drawW|((first|apply gI_dec|apply gG_dec|apply gPG_dec|apply gI_var|apply gG_var|apply gPG_var)<;>intro _))
  all_goals try (exfalso;omega)
  exact h1
 ·have h2:=h2 hc
  repeat' (first|(simp (disch:=first|omega|assumption|exact bd (by with_unfolding_all rfl)|exact Or.inl rfl|exact Or.inl trivial|exact okL_map _ (fun _=>rfl) _|(simp only[VVlen]<;>omega)|fail) only[VV0,VV1,VV2,VV3,VV4,VV5,VV6,VV7,VV8,VV9,mkFnV,vargs,slotsL,opdsA,Nat.reduceEqDiff,Nat.reduceLT,Nat.reduceAdd,Nat.reduceBEq,Int.reduceAdd,Int.reduceSub,Int.reduceLT,Int.reduceLE,Int.reduceEq,Int.reduceNeg,↓reduceIte,reduceCtorEq,scL,scD,expand,List.replicate,rdC4,rdC3,rdC2,rdC1,c11,AC.l,AC.r,sD_dv,t1,h43,mk_inj])|apply gC_drawW|((first|apply gI_dec|apply gG_dec|apply gPG_dec|apply gI_var|apply gG_var|apply gPG_var)<;>intro _))
  all_goals try (exfalso;omega)
  all_goals exact h2
theorem rd_b2 {C:Ctx} (hC:C.E=EN w (n+3)) {X:AC} {P:VPost} {e:VFr} (he:rdE 40 e) (s:List UInt8) (ws:List (List UInt8)) (i:Ins) (a:Nat) (hwl:ws.length≤1000) (hx:∀ x ∈ ws,x.length≤1000000) (ha:a≤10) (ho:i.op<10)
  (h1:3≤i.op∧i.op ≠ 8∧a<ws.length→∀ b z,(∀ b0 z0,b0≤1→ -1000≤z0→z0≤1000→ws[a]! =ndl b0 z0→b=b0∧z=z0)→gC C X [] (rdF s ws (a+1) []) (rdH ⟨i.op,i.right,b,z,i.to,i.car,i.rack⟩) P)
  (h2:¬ (3≤i.op∧i.op ≠ 8∧a<ws.length)→gC C X [] (rdF s ws a [(59,.sc (.bool false))]) (rdH i) P):
  gC C (.seq (AC.l rdC2) X) [] (rdF s ws a e) (rdH i) P:=by
 rcases he with rfl|rfl
 ·have hwm:(ws.map sD).length=ws.length:=by rw[List.length_map]
  by_cases hc:3≤i.op∧i.op ≠ 8∧a<ws.length
  ·obtain ⟨c1,c2,c3⟩:=id hc
   have hm:ws[a]! ∈ ws:=by rw[getElem!_pos ws a c3];exact List.getElem_mem _
   obtain ⟨b,z,f,hn,hp⟩:=rneedle_ex w n ws[a]! (hx _ hm)
   have h1:=h1 hc b z hp
   repeat' (first|(simp (disch:=first|omega|assumption|exact bd (by with_unfolding_all rfl)|exact Or.inl rfl|exact Or.inl trivial|exact okL_map _ (fun _=>rfl) _|(simp only[VVlen]<;>omega)|fail) only[VV0,VV1,VV2,VV3,VV4,VV5,VV6,VV7,VV8,VV9,mkFnV,vargs,slotsL,opdsA,Nat.reduceEqDiff,Nat.reduceLT,Nat.reduceAdd,Nat.reduceBEq,Int.reduceAdd,Int.reduceSub,Int.reduceLT,Int.reduceLE,Int.reduceEq,Int.reduceNeg,↓reduceIte,reduceCtorEq,scL,scD,expand,List.replicate,rdC4,rdC3,rdC2,rdC1,c11,AC.l,AC.r,sD_dv])|apply gC_drawW|((first|apply gI_dec|apply gG_dec|apply gPG_dec|apply gI_var|apply gG_var|apply gPG_var)<;>intro _))
   all_goals try (exfalso;omega)
   refine callV_flat (by rw[hC];exact hn.flat rfl rfl) ?_
   repeat' (first|(simp (disch:=first|omega|assumption|exact bd (by with_unfolding_all rfl)|exact Or.inl rfl|exact Or.inl trivial|exact okL_map _ (fun _=>rfl) _|(simp only[VVlen]<;>omega)|fail) only[VV0,VV1,VV2,VV3,VV4,VV5,VV6,VV7,VV8,VV9,mkFnV,vargs,slotsL,opdsA,Nat.reduceEqDiff,Nat.reduceLT,Nat.reduceAdd,Nat.reduceBEq,Int.reduceAdd,Int.reduceSub,Int.reduceLT,Int.reduceLE,Int.reduceEq,Int.reduceNeg,↓reduceIte,reduceCtorEq,scL,scD,expand,List.replicate])|apply gC_drawW|((first|apply gI_dec|apply gG_dec|apply gPG_dec|apply gI_var|apply gG_var|apply gPG_var)<;>intro _))
   exact h1
  ·have h2:=h2 hc
   repeat' (first|(simp (disch:=first|omega|assumption|exact bd (by with_unfolding_all rfl)|exact Or.inl rfl|exact Or.inl trivial|exact okL_map _ (fun _=>rfl) _|(simp only[VVlen]<;>omega)|fail) only[VV0,VV1,VV2,VV3,VV4,VV5,VV6,VV7,VV8,VV9,mkFnV,vargs,slotsL,opdsA,Nat.reduceEqDiff,Nat.reduceLT,Nat.reduceAdd,Nat.reduceBEq,Int.reduceAdd,Int.reduceSub,Int.reduceLT,Int.reduceLE,Int.reduceEq,Int.reduceNeg,↓reduceIte,reduceCtorEq,scL,scD,expand,List.replicate,rdC4,rdC3,rdC2,rdC1,c11,AC.l,AC.r,sD_dv])|apply gC_drawW|((first|apply gI_dec|apply gG_dec|apply gPG_dec|apply gI_var|apply gG_var|apply gPG_var)<;>intro _))
   all_goals try (exfalso;omega)
   all_goals exact h2
 ·have hwm:(ws.map sD).length=ws.length:=by rw[List.length_map]
  by_cases hc:3≤i.op∧i.op ≠ 8∧a<ws.length
  ·obtain ⟨c1,c2,c3⟩:=id hc
   have hm:ws[a]! ∈ ws:=by rw[getElem!_pos ws a c3];exact List.getElem_mem _
   obtain ⟨b,z,f,hn,hp⟩:=rneedle_ex w n ws[a]! (hx _ hm)
   have h1:=h1 hc b z hp
   repeat' (first|(simp (disch:=first|omega|assumption|exact bd (by with_unfolding_all rfl)|exact Or.inl rfl|exact Or.inl trivial|exact okL_map _ (fun _=>rfl) _|(simp only[VVlen]<;>omega)|fail) only[VV0,VV1,VV2,VV3,VV4,VV5,VV6,VV7,VV8,VV9,mkFnV,vargs,slotsL,opdsA,Nat.reduceEqDiff,Nat.reduceLT,Nat.reduceAdd,Nat.reduceBEq,Int.reduceAdd,Int.reduceSub,Int.reduceLT,Int.reduceLE,Int.reduceEq,Int.reduceNeg,↓reduceIte,reduceCtorEq,scL,scD,expand,List.replicate,rdC4,rdC3,rdC2,rdC1,c11,AC.l,AC.r,sD_dv])|apply gC_drawW|((first|apply gI_dec|apply gG_dec|apply gPG_dec|apply gI_var|apply gG_var|apply gPG_var)<;>intro _))
   all_goals try (exfalso;omega)
   refine callV_flat (by rw[hC];exact hn.flat rfl rfl) ?_
   repeat' (first|(simp (disch:=first|omega|assumption|exact bd (by with_unfolding_all rfl)|exact Or.inl rfl|exact Or.inl trivial|exact okL_map _ (fun _=>rfl) _|(simp only[VVlen]<;>omega)|fail) only[VV0,VV1,VV2,VV3,VV4,VV5,VV6,VV7,VV8,VV9,mkFnV,vargs,slotsL,opdsA,Nat.reduceEqDiff,Nat.reduceLT,Nat.reduceAdd,Nat.reduceBEq,Int.reduceAdd,Int.reduceSub,Int.reduceLT,Int.reduceLE,Int.reduceEq,Int.reduceNeg,↓reduceIte,reduceCtorEq,scL,scD,expand,List.replicate])|apply gC_drawW|((first|apply gI_dec|apply gG_dec|apply gPG_dec|apply gI_var|apply gG_var|apply gPG_var)<;>intro _))
   exact h1
  ·have h2:=h2 hc
   repeat' (first|(simp (disch:=first|omega|assumption|exact bd (by with_unfolding_all rfl)|exact Or.inl rfl|exact Or.inl trivial|exact okL_map _ (fun _=>rfl) _|(simp only[VVlen]<;>omega)|fail) only[VV0,VV1,VV2,VV3,VV4,VV5,VV6,VV7,VV8,VV9,mkFnV,vargs,slotsL,opdsA,Nat.reduceEqDiff,Nat.reduceLT,Nat.reduceAdd,Nat.reduceBEq,Int.reduceAdd,Int.reduceSub,Int.reduceLT,Int.reduceLE,Int.reduceEq,Int.reduceNeg,↓reduceIte,reduceCtorEq,scL,scD,expand,List.replicate,rdC4,rdC3,rdC2,rdC1,c11,AC.l,AC.r,sD_dv])|apply gC_drawW|((first|apply gI_dec|apply gG_dec|apply gPG_dec|apply gI_var|apply gG_var|apply gPG_var)<;>intro _))
   all_goals try (exfalso;omega)
   all_goals exact h2
theorem rd_b3 {C:Ctx} (hC:C.E=EN w (n+3)) {X:AC} {P:VPost} {e:VFr} (he:rdE 59 e) (s:List UInt8) (ws:List (List UInt8)) (i:Ins) (a:Nat) (hwl:ws.length≤1000) (hx:∀ x ∈ ws,x.length≤1000000) (ha:a≤10) (ho:i.op<10)
  (h1:(i.op=6∨i.op=7)∧a<ws.length→∀ z,(∀ b0 z0,b0≤1→ -1000≤z0→z0≤1000→ws[a]! =ndl b0 z0→z=z0)→gC C X [] (rdF s ws (a+1) []) (rdH ⟨i.op,i.right,i.bed,i.pos,z,i.car,i.rack⟩) P)
  (h2:¬ ((i.op=6∨i.op=7)∧a<ws.length)→gC C X [] (rdF s ws a [(86,.sc (.bool false))]) (rdH i) P):
  gC C (.seq (AC.l rdC3) X) [] (rdF s ws a e) (rdH i) P:=by
 rcases he with rfl|rfl
 ·have hwm:(ws.map sD).length=ws.length:=by rw[List.length_map]
  by_cases hc:(i.op=6∨i.op=7)∧a<ws.length
  ·obtain ⟨c1,c3⟩:=id hc
   have hm:ws[a]! ∈ ws:=by rw[getElem!_pos ws a c3];exact List.getElem_mem _
   obtain ⟨b,z,f,hn,hp⟩:=rneedle_ex w n ws[a]! (hx _ hm)
   have h1:=h1 hc z (fun b0 z0 e1 e2 e3 e4=>(hp b0 z0 e1 e2 e3 e4).2)
   repeat' (first|(simp (disch:=first|omega|assumption|exact bd (by with_unfolding_all rfl)|exact Or.inl rfl|exact Or.inl trivial|exact okL_map _ (fun _=>rfl) _|(simp only[VVlen]<;>omega)|fail) only[VV0,VV1,VV2,VV3,VV4,VV5,VV6,VV7,VV8,VV9,mkFnV,vargs,slotsL,opdsA,Nat.reduceEqDiff,Nat.reduceLT,Nat.reduceAdd,Nat.reduceBEq,Int.reduceAdd,Int.reduceSub,Int.reduceLT,Int.reduceLE,Int.reduceEq,Int.reduceNeg,↓reduceIte,reduceCtorEq,scL,scD,expand,List.replicate,rdC4,rdC3,rdC2,rdC1,c11,AC.l,AC.r,sD_dv])|apply gC_drawW|((first|apply gI_dec|apply gG_dec|apply gPG_dec|apply gI_var|apply gG_var|apply gPG_var)<;>intro _))
   all_goals try (exfalso;omega)
   all_goals refine callV_flat (by rw[hC];exact hn.flat rfl rfl) ?_
   all_goals
    repeat' (first|(simp (disch:=first|omega|assumption|exact bd (by with_unfolding_all rfl)|exact Or.inl rfl|exact Or.inl trivial|exact okL_map _ (fun _=>rfl) _|(simp only[VVlen]<;>omega)|fail) only[VV0,VV1,VV2,VV3,VV4,VV5,VV6,VV7,VV8,VV9,mkFnV,vargs,slotsL,opdsA,Nat.reduceEqDiff,Nat.reduceLT,Nat.reduceAdd,Nat.reduceBEq,Int.reduceAdd,Int.reduceSub,Int.reduceLT,Int.reduceLE,Int.reduceEq,Int.reduceNeg,↓reduceIte,reduceCtorEq,scL,scD,expand,List.replicate])|apply gC_drawW|((first|apply gI_dec|apply gG_dec|apply gPG_dec|apply gI_var|apply gG_var|apply gPG_var)<;>intro _))
    exact h1
  ·have h2:=h2 hc
   repeat' (first|(simp (disch:=first|omega|assumption|exact bd (by with_unfolding_all rfl)|exact Or.inl rfl|exact Or.inl trivial|exact okL_map _ (fun _=>rfl) _|(simp only[VVlen]<;>omega)|fail) only[VV0,VV1,VV2,VV3,VV4,VV5,VV6,VV7,VV8,VV9,mkFnV,vargs,slotsL,opdsA,Nat.reduceEqDiff,Nat.reduceLT,Nat.reduceAdd,Nat.reduceBEq,Int.reduceAdd,Int.reduceSub,Int.reduceLT,Int.reduceLE,Int.reduceEq,Int.reduceNeg,↓reduceIte,reduceCtorEq,scL,scD,expand,List.replicate,rdC4,rdC3,rdC2,rdC1,c11,AC.l,AC.r,sD_dv])|apply gC_drawW|((first|apply gI_dec|apply gG_dec|apply gPG_dec|apply gI_var|apply gG_var|apply gPG_var)<;>intro _))
   all_goals try (exfalso;omega)
   all_goals exact h2
 ·have hwm:(ws.map sD).length=ws.length:=by rw[List.length_map]
  by_cases hc:(i.op=6∨i.op=7)∧a<ws.length
  ·obtain ⟨c1,c3⟩:=id hc
   have hm:ws[a]! ∈ ws:=by rw[getElem!_pos ws a c3];exact List.getElem_mem _
   obtain ⟨b,z,f,hn,hp⟩:=rneedle_ex w n ws[a]! (hx _ hm)
   have h1:=h1 hc z (fun b0 z0 e1 e2 e3 e4=>(hp b0 z0 e1 e2 e3 e4).2)
   repeat' (first|(simp (disch:=first|omega|assumption|exact bd (by with_unfolding_all rfl)|exact Or.inl rfl|exact Or.inl trivial|exact okL_map _ (fun _=>rfl) _|(simp only[VVlen]<;>omega)|fail) only[VV0,VV1,VV2,VV3,VV4,VV5,VV6,VV7,VV8,VV9,mkFnV,vargs,slotsL,opdsA,Nat.reduceEqDiff,Nat.reduceLT,Nat.reduceAdd,Nat.reduceBEq,Int.reduceAdd,Int.reduceSub,Int.reduceLT,Int.reduceLE,Int.reduceEq,Int.reduceNeg,↓reduceIte,reduceCtorEq,scL,scD,expand,List.replicate,rdC4,rdC3,rdC2,rdC1,c11,AC.l,AC.r,sD_dv])|apply gC_drawW|((first|apply gI_dec|apply gG_dec|apply gPG_dec|apply gI_var|apply gG_var|apply gPG_var)<;>intro _))
   all_goals try (exfalso;omega)
   all_goals refine callV_flat (by rw[hC];exact hn.flat rfl rfl) ?_
   all_goals
    repeat' (first|(simp (disch:=first|omega|assumption|exact bd (by with_unfolding_all rfl)|exact Or.inl rfl|exact Or.inl trivial|exact okL_map _ (fun _=>rfl) _|(simp only[VVlen]<;>omega)|fail) only[VV0,VV1,VV2,VV3,VV4,VV5,VV6,VV7,VV8,VV9,mkFnV,vargs,slotsL,opdsA,Nat.reduceEqDiff,Nat.reduceLT,Nat.reduceAdd,Nat.reduceBEq,Int.reduceAdd,Int.reduceSub,Int.reduceLT,Int.reduceLE,Int.reduceEq,Int.reduceNeg,↓reduceIte,reduceCtorEq,scL,scD,expand,List.replicate])|apply gC_drawW|((first|apply gI_dec|apply gG_dec|apply gPG_dec|apply gI_var|apply gG_var|apply gPG_var)<;>intro _))
    exact h1
  ·have h2:=h2 hc
   repeat' (first|(simp (disch:=first|omega|assumption|exact bd (by with_unfolding_all rfl)|exact Or.inl rfl|exact Or.inl trivial|exact okL_map _ (fun _=>rfl) _|(simp only[VVlen]<;>omega)|fail) only[VV0,VV1,VV2,VV3,VV4,VV5,VV6,VV7,VV8,VV9,mkFnV,vargs,slotsL,opdsA,Nat.reduceEqDiff,Nat.reduceLT,Nat.reduceAdd,Nat.reduceBEq,Int.reduceAdd,Int.reduceSub,Int.reduceLT,Int.reduceLE,Int.reduceEq,Int.reduceNeg,↓reduceIte,reduceCtorEq,scL,scD,expand,List.replicate,rdC4,rdC3,rdC2,rdC1,c11,AC.l,AC.r,sD_dv])|apply gC_drawW|((first|apply gI_dec|apply gG_dec|apply gPG_dec|apply gI_var|apply gG_var|apply gPG_var)<;>intro _))
   all_goals try (exfalso;omega)
   all_goals exact h2
theorem rd_b4 {C:Ctx} (hC:C.E=EN w (n+3)) {X:AC} {P:VPost} {e:VFr} (he:rdE 86 e) (s:List UInt8) (ws:List (List UInt8)) (i:Ins) (a:Nat) (hwl:ws.length≤1000) (hx:∀ x ∈ ws,x.length≤1000000) (ha:a≤10) (ho:i.op<10)
  (h1:i.op ≠ 7∧i.op ≠ 9∧a<ws.length→∀ z,(∀ z0,-1000≤z0→z0≤1000→ws[a]! =Lib.itoa z0→z=z0)→gC C X [] [(0,strV s),(2,.ptr 0 0),(5,.ptr 1 0)] (rdH (if i.op=8 then ⟨i.op,i.right,i.bed,i.pos,i.to,i.car,z⟩ else ⟨i.op,i.right,i.bed,i.pos,i.to,z,i.rack⟩)) P)
  (h2:¬ (i.op ≠ 7∧i.op ≠ 9∧a<ws.length)→gC C X [] (rdF s ws a [(112,.sc (.bool false))]) (rdH i) P):
  gC C (.seq (AC.l rdC4) X) [] (rdF s ws a e) (rdH i) P:=by
 rcases he with rfl|rfl
 ·have hwm:(ws.map sD).length=ws.length:=by rw[List.length_map]
  by_cases hc:i.op ≠ 7∧i.op ≠ 9∧a<ws.length
  ·obtain ⟨c1,c2,c3⟩:=id hc
   have hm:ws[a]! ∈ ws:=by rw[getElem!_pos ws a c3];exact List.getElem_mem _
   obtain ⟨z,f,hn,hp⟩:=rnum_ex w (n+1) ws[a]! (hx _ hm)
   have h1:=h1 hc z hp
   by_cases h8:i.op=8
   ·rw[if_pos h8] at h1
    repeat' (first|(simp (disch:=first|omega|assumption|exact bd (by with_unfolding_all rfl)|exact Or.inl rfl|exact Or.inl trivial|exact okL_map _ (fun _=>rfl) _|(simp only[VVlen]<;>omega)|fail) only[VV0,VV1,VV2,VV3,VV4,VV5,VV6,VV7,VV8,VV9,mkFnV,vargs,slotsL,opdsA,Nat.reduceEqDiff,Nat.reduceLT,Nat.reduceAdd,Nat.reduceBEq,Int.reduceAdd,Int.reduceSub,Int.reduceLT,Int.reduceLE,Int.reduceEq,Int.reduceNeg,↓reduceIte,reduceCtorEq,scL,scD,expand,List.replicate,rdC4,rdC3,rdC2,rdC1,c11,AC.l,AC.r,sD_dv])|apply gC_drawW|((first|apply gI_dec|apply gG_dec|apply gPG_dec|apply gI_var|apply gG_var|apply gPG_var)<;>intro _))
    all_goals try (exfalso;omega)
    refine callV_flat (by rw[hC];exact hn.flat rfl rfl) ?_
    repeat' (first|(simp (disch:=first|omega|assumption|exact bd (by with_unfolding_all rfl)|exact Or.inl rfl|exact Or.inl trivial|exact okL_map _ (fun _=>rfl) _|(simp only[VVlen]<;>omega)|fail) only[VV0,VV1,VV2,VV3,VV4,VV5,VV6,VV7,VV8,VV9,mkFnV,vargs,slotsL,opdsA,Nat.reduceEqDiff,Nat.reduceLT,Nat.reduceAdd,Nat.reduceBEq,Int.reduceAdd,Int.reduceSub,Int.reduceLT,Int.reduceLE,Int.reduceEq,Int.reduceNeg,↓reduceIte,reduceCtorEq,scL,scD,expand,List.replicate])|apply gC_drawW|((first|apply gI_dec|apply gG_dec|apply gPG_dec|apply gI_var|apply gG_var|apply gPG_var)<;>intro _))
    all_goals try (exfalso;omega)
    exact h1
   ·rw[if_neg h8] at h1
    repeat' (first|(simp (disch:=first|omega|assumption|exact bd (by with_unfolding_all rfl)|exact Or.inl rfl|exact Or.inl trivial|exact okL_map _ (fun _=>rfl) _|(simp only[VVlen]<;>omega)|fail) only[VV0,VV1,VV2,VV3,VV4,VV5,VV6,VV7,VV8,VV9,mkFnV,vargs,slotsL,opdsA,Nat.reduceEqDiff,Nat.reduceLT,Nat.reduceAdd,Nat.reduceBEq,Int.reduceAdd,Int.reduceSub,Int.reduceLT,Int.reduceLE,Int.reduceEq,Int.reduceNeg,↓reduceIte,reduceCtorEq,scL,scD,expand,List.replicate,rdC4,rdC3,rdC2,rdC1,c11,AC.l,AC.r,sD_dv])|apply gC_drawW|((first|apply gI_dec|apply gG_dec|apply gPG_dec|apply gI_var|apply gG_var|apply gPG_var)<;>intro _))
    all_goals try (exfalso;omega)
    refine callV_flat (by rw[hC];exact hn.flat rfl rfl) ?_
    repeat' (first|(simp (disch:=first|omega|assumption|exact bd (by with_unfolding_all rfl)|exact Or.inl rfl|exact Or.inl trivial|exact okL_map _ (fun _=>rfl) _|(simp only[VVlen]<;>omega)|fail) only[VV0,VV1,VV2,VV3,VV4,VV5,VV6,VV7,VV8,VV9,mkFnV,vargs,slotsL,opdsA,Nat.reduceEqDiff,Nat.reduceLT,Nat.reduceAdd,Nat.reduceBEq,Int.reduceAdd,Int.reduceSub,Int.reduceLT,Int.reduceLE,Int.reduceEq,Int.reduceNeg,↓reduceIte,reduceCtorEq,scL,scD,expand,List.replicate])|apply gC_drawW|((first|apply gI_dec|apply gG_dec|apply gPG_dec|apply gI_var|apply gG_var|apply gPG_var)<;>intro _))
    all_goals try (exfalso;omega)
    exact h1
  ·have h2:=h2 hc
   repeat' (first|(simp (disch:=first|omega|assumption|exact bd (by with_unfolding_all rfl)|exact Or.inl rfl|exact Or.inl trivial|exact okL_map _ (fun _=>rfl) _|(simp only[VVlen]<;>omega)|fail) only[VV0,VV1,VV2,VV3,VV4,VV5,VV6,VV7,VV8,VV9,mkFnV,vargs,slotsL,opdsA,Nat.reduceEqDiff,Nat.reduceLT,Nat.reduceAdd,Nat.reduceBEq,Int.reduceAdd,Int.reduceSub,Int.reduceLT,Int.reduceLE,Int.reduceEq,Int.reduceNeg,↓reduceIte,reduceCtorEq,scL,scD,expand,List.replicate,rdC4,rdC3,rdC2,rdC1,c11,AC.l,AC.r,sD_dv])|apply gC_drawW|((first|apply gI_dec|apply gG_dec|apply gPG_dec|apply gI_var|apply gG_var|apply gPG_var)<;>intro _))
   all_goals try (exfalso;omega)
   all_goals exact h2
 ·have hwm:(ws.map sD).length=ws.length:=by rw[List.length_map]
  by_cases hc:i.op ≠ 7∧i.op ≠ 9∧a<ws.length
  ·obtain ⟨c1,c2,c3⟩:=id hc
   have hm:ws[a]! ∈ ws:=by rw[getElem!_pos ws a c3];exact List.getElem_mem _
   obtain ⟨z,f,hn,hp⟩:=rnum_ex w (n+1) ws[a]! (hx _ hm)
   have h1:=h1 hc z hp
   by_cases h8:i.op=8
   ·rw[if_pos h8] at h1
    repeat' (first|(simp (disch:=first|omega|assumption|exact bd (by with_unfolding_all rfl)|exact Or.inl rfl|exact Or.inl trivial|exact okL_map _ (fun _=>rfl) _|(simp only[VVlen]<;>omega)|fail) only[VV0,VV1,VV2,VV3,VV4,VV5,VV6,VV7,VV8,VV9,mkFnV,vargs,slotsL,opdsA,Nat.reduceEqDiff,Nat.reduceLT,Nat.reduceAdd,Nat.reduceBEq,Int.reduceAdd,Int.reduceSub,Int.reduceLT,Int.reduceLE,Int.reduceEq,Int.reduceNeg,↓reduceIte,reduceCtorEq,scL,scD,expand,List.replicate,rdC4,rdC3,rdC2,rdC1,c11,AC.l,AC.r,sD_dv])|apply gC_drawW|((first|apply gI_dec|apply gG_dec|apply gPG_dec|apply gI_var|apply gG_var|apply gPG_var)<;>intro _))
    all_goals try (exfalso;omega)
    refine callV_flat (by rw[hC];exact hn.flat rfl rfl) ?_
    repeat' (first|(simp (disch:=first|omega|assumption|exact bd (by with_unfolding_all rfl)|exact Or.inl rfl|exact Or.inl trivial|exact okL_map _ (fun _=>rfl) _|(simp only[VVlen]<;>omega)|fail) only[VV0,VV1,VV2,VV3,VV4,VV5,VV6,VV7,VV8,VV9,mkFnV,vargs,slotsL,opdsA,Nat.reduceEqDiff,Nat.reduceLT,Nat.reduceAdd,Nat.reduceBEq,Int.reduceAdd,Int.reduceSub,Int.reduceLT,Int.reduceLE,Int.reduceEq,Int.reduceNeg,↓reduceIte,reduceCtorEq,scL,scD,expand,List.replicate])|apply gC_drawW|((first|apply gI_dec|apply gG_dec|apply gPG_dec|apply gI_var|apply gG_var|apply gPG_var)<;>intro _))
    all_goals try (exfalso;omega)
    exact h1
   ·rw[if_neg h8] at h1
    repeat' (first|(simp (disch:=first|omega|assumption|exact bd (by with_unfolding_all rfl)|exact Or.inl rfl|exact Or.inl trivial|exact okL_map _ (fun _=>rfl) _|(simp only[VVlen]<;>omega)|fail) only[VV0,VV1,VV2,VV3,VV4,VV5,VV6,VV7,VV8,VV9,mkFnV,vargs,slotsL,opdsA,Nat.reduceEqDiff,Nat.reduceLT,Nat.reduceAdd,Nat.reduceBEq,Int.reduceAdd,Int.reduceSub,Int.reduceLT,Int.reduceLE,Int.reduceEq,Int.reduceNeg,↓reduceIte,reduceCtorEq,scL,scD,expand,List.replicate,rdC4,rdC3,rdC2,rdC1,c11,AC.l,AC.r,sD_dv])|apply gC_drawW|((first|apply gI_dec|apply gG_dec|apply gPG_dec|apply gI_var|apply gG_var|apply gPG_var)<;>intro _))
    all_goals try (exfalso;omega)
    refine callV_flat (by rw[hC];exact hn.flat rfl rfl) ?_
    repeat' (first|(simp (disch:=first|omega|assumption|exact bd (by with_unfolding_all rfl)|exact Or.inl rfl|exact Or.inl trivial|exact okL_map _ (fun _=>rfl) _|(simp only[VVlen]<;>omega)|fail) only[VV0,VV1,VV2,VV3,VV4,VV5,VV6,VV7,VV8,VV9,mkFnV,vargs,slotsL,opdsA,Nat.reduceEqDiff,Nat.reduceLT,Nat.reduceAdd,Nat.reduceBEq,Int.reduceAdd,Int.reduceSub,Int.reduceLT,Int.reduceLE,Int.reduceEq,Int.reduceNeg,↓reduceIte,reduceCtorEq,scL,scD,expand,List.replicate])|apply gC_drawW|((first|apply gI_dec|apply gG_dec|apply gPG_dec|apply gI_var|apply gG_var|apply gPG_var)<;>intro _))
    all_goals try (exfalso;omega)
    exact h1
  ·have h2:=h2 hc
   repeat' (first|(simp (disch:=first|omega|assumption|exact bd (by with_unfolding_all rfl)|exact Or.inl rfl|exact Or.inl trivial|exact okL_map _ (fun _=>rfl) _|(simp only[VVlen]<;>omega)|fail) only[VV0,VV1,VV2,VV3,VV4,VV5,VV6,VV7,VV8,VV9,mkFnV,vargs,slotsL,opdsA,Nat.reduceEqDiff,Nat.reduceLT,Nat.reduceAdd,Nat.reduceBEq,Int.reduceAdd,Int.reduceSub,Int.reduceLT,Int.reduceLE,Int.reduceEq,Int.reduceNeg,↓reduceIte,reduceCtorEq,scL,scD,expand,List.replicate,rdC4,rdC3,rdC2,rdC1,c11,AC.l,AC.r,sD_dv])|apply gC_drawW|((first|apply gI_dec|apply gG_dec|apply gPG_dec|apply gI_var|apply gG_var|apply gPG_var)<;>intro _))
   all_goals try (exfalso;omega)
   all_goals exact h2
end
end Go.Proofs.YtbefpfbidgfipaaDoor
namespace Go.Proofs.YtbefpfbidgfipaaDoor
open Go Go.Itp
set_option maxRecDepth 100000
set_option maxHeartbeats 4000000
set_option linter.unusedSimpArgs false
set_option linter.unusedVariables false
theorem itoa_len4 {z:Int} (h0: -1000<z) (h1:z<1000):(Lib.itoa z).length≤4:=by
 have hd:=decDigits_len 2 z.natAbs (by simpa using (by omega:z.natAbs<1000))
 rcases Int.lt_or_le z 0 with h|h
 ·have e:Lib.itoa z=45::Lib.decDigits z.natAbs:=by unfold Lib.itoa;rw[if_pos h]
  rw[e];simp;omega
 ·obtain ⟨u,rfl⟩:=Int.eq_ofNat_of_zero_le h
  rw[Lib.itoa_nonneg]
  simp only[Int.natAbs_natCast] at hd
  omega
theorem nameI_len5:∀ op,op<10→(nameI op).length≤5:=by decide
theorem textI_len40 {i:Ins} (h:InsP i):(textI i).length≤40:=by
 have hb:=h.bounds
 have h1:∀ z:Int,-101≤z∧z≤101→(Lib.itoa z).length≤4:=fun z hz=>itoa_len4 (by omega) (by omega)
 have h2:∀ w ∈ nameI i.op::(partsI i.op).map (partT i),w.length≤5:=fun w hw=>by
  rcases List.mem_cons.1 hw with rfl|hw
  ·exact nameI_len5 i.op h.op_lt.2
  ·obtain ⟨c,_,rfl⟩:=List.mem_map.1 hw
   unfold partT
   split
   ·split<;>simp
   split
   ·have:=h1 i.pos (by unfold ndOK at hb;omega);unfold ndl;simp;omega
   split
   ·have:=h1 i.to (by unfold ndOK at hb;omega);unfold ndl;simp;omega
   split
   ·have:=h1 i.car (by omega);omega
   ·have:=h1 i.rack (by omega);omega
 have h3:=join_len 32 5 _ h2
 have h4:=partsI_len h.op_lt.2
 have h5:(nameI i.op::(partsI i.op).map (partT i)).length≤5:=by rw[List.length_cons,List.length_map];omega
 unfold textI
 have:=Nat.mul_le_mul_right 6 h5
 omega
def opN (wd:List UInt8):Nat→Nat
 |0=>0
 |k+1=>if 0<k∧nameI k=wd then k else opN wd k
theorem opN_lt (wd:List UInt8):∀ k,opN wd k<k+1
 |0=>by unfold opN;omega
 |k+1=>by
  have:=opN_lt wd k
  unfold opN
  split<;>omega
theorem opN_10 (wd:List UInt8):opN wd 10<10:=by
 have:=opN_lt wd 9
 show (if 0<9∧nameI 9=wd then 9 else opN wd 9)<10
 split<;>omega
theorem opN_name:∀ op,op<10→0<op→opN (nameI op) 10=op:=by decide
theorem ws_facts {i0:Ins} (h:InsP i0):(words 32 (textI i0))[0]! =nameI i0.op∧
  (3≤i0.op∧i0.op≤6→4≤(words 32 (textI i0)).length∧(words 32 (textI i0))[1]! =(if i0.right=true then [43] else [45])∧(words 32 (textI i0))[2]! =ndl i0.bed i0.pos)∧
  (3≤i0.op∧i0.op≤5→(words 32 (textI i0))[3]! =Lib.itoa i0.car)∧
  (i0.op=6→5≤(words 32 (textI i0)).length∧(words 32 (textI i0))[3]! =ndl (1 - i0.bed) i0.to∧(words 32 (textI i0))[4]! =Lib.itoa i0.car)∧
  (i0.op=7→3≤(words 32 (textI i0)).length∧(words 32 (textI i0))[1]! =ndl i0.bed i0.pos∧(words 32 (textI i0))[2]! =ndl (1 - i0.bed) i0.to)∧
  (i0.op=9→2≤(words 32 (textI i0)).length∧(words 32 (textI i0))[1]! =ndl i0.bed i0.pos)∧
  (i0.op=8→2≤(words 32 (textI i0)).length∧(words 32 (textI i0))[1]! =Lib.itoa i0.rack)∧
  (i0.op≤2→2≤(words 32 (textI i0)).length∧(words 32 (textI i0))[1]! =Lib.itoa i0.car):=by
 rw[textI_words]
 have hop:=h.op_lt
 clear h
 obtain ⟨op,right,bed,pos,to,car,rack⟩:=i0
 simp only at hop ⊢
 rcases (by omega:op=1∨op=2∨op=3∨op=4∨op=5∨op=6∨op=7∨op=8∨op=9) with rfl|rfl|rfl|rfl|rfl|rfl|rfl|rfl|rfl
 all_goals
  refine ⟨rfl,fun h=>?_,fun h=>?_,fun h=>?_,fun h=>?_,fun h=>?_,fun h=>?_,fun h=>?_⟩
  all_goals first|(exfalso;omega)|rfl|exact ⟨by simp[partsI],rfl⟩|exact ⟨by simp[partsI],rfl,rfl⟩
theorem insP_rest0 {i:Ins} (h:InsP i):(¬ (3≤i.op∧i.op≤6)→i.right=false)∧(i.op≤2∨i.op=8→i.bed=0∧i.pos=0)∧(i.op ≠ 6∧i.op ≠ 7→i.to=0)∧(7≤i.op→i.car=0)∧(i.op ≠ 8→i.rack=0)∧i.bed≤1∧ -100≤i.pos∧i.pos≤100∧ -100≤i.to∧i.to≤100∧0≤i.car∧i.car≤6∧ -8≤i.rack∧i.rack≤8:=by
 unfold InsP ndOK at h
 refine ⟨fun h2=>?_,by omega,by omega,by omega,by omega,by omega,by omega,by omega,by omega,by omega,by omega,by omega,by omega,by omega⟩
 rcases h with h|h|h|h|h|h
 ·exact h.2.2.1
 ·exfalso;omega
 ·exfalso;omega
 ·exact h.2.1
 ·exact h.2.1
 ·exact h.2.1
section
variable (w:World) (n:Nat)
theorem rd_t5 {C:Ctx} (hC:C.E=EN w (n+4)) (h0:C.w0.nx=0) (s:List UInt8) (i:Ins) (hi:∀ i0,InsP i0→s=textI i0→i=i0) {fr:VFr} (hfr:fr= [(0,strV s),(2,.ptr 0 0),(5,.ptr 1 0)]∨∃ ws a,fr=rdF s ws a [(112,.sc (.bool false))]):
  gC C rdC5 [] fr (rdH i) (RetV C c11.res (resI (readO s)) ⟨[],0,0⟩):=by
 have hbi:=rinstr_p w (n+2) i
 by_cases hv:insOK i=true
 ·have hl:=written_p w n i (insOK_iff.1 hv)
  rw[if_pos hv] at hbi
  unfold insV at hbi hl
  by_cases ht:textI i=s
  ·have hr:readO s=some i:=by rw[← ht];exact readO_text (insOK_iff.1 hv)
   rw[hr]
   rcases hfr with rfl|⟨ws,a,rfl⟩
   ·repeat' (first|(simp (disch:=first|omega|assumption|exact bd (by with_unfolding_all rfl)|exact Or.inl rfl|exact Or.inl trivial|exact okL_map _ (fun _=>rfl) _|(simp only[VVlen]<;>omega)|fail) only[VV0,VV1,VV2,VV3,VV4,VV5,VV6,VV7,VV8,VV9,mkFnV,vargs,slotsL,opdsA,Nat.reduceEqDiff,Nat.reduceLT,Nat.reduceAdd,Nat.reduceBEq,Int.reduceAdd,Int.reduceSub,Int.reduceLT,Int.reduceLE,Int.reduceEq,Int.reduceNeg,↓reduceIte,reduceCtorEq,scL,scD,expand,List.replicate,rdC5,rdC4,rdC3,rdC2,rdC1,c11,AC.r])|apply gC_drawW|((first|apply gI_dec|apply gG_dec|apply gPG_dec|apply gI_var|apply gG_var|apply gPG_var)<;>intro _))
    refine callV_flat (by rw[hC];exact hbi.flat rfl rfl) ?_
    repeat' (first|(simp (disch:=first|omega|assumption|exact bd (by with_unfolding_all rfl)|exact Or.inl rfl|exact Or.inl trivial|exact okL_map _ (fun _=>rfl) _|(simp only[VVlen]<;>omega)|fail) only[VV0,VV1,VV2,VV3,VV4,VV5,VV6,VV7,VV8,VV9,mkFnV,vargs,slotsL,opdsA,Nat.reduceEqDiff,Nat.reduceLT,Nat.reduceAdd,Nat.reduceBEq,Int.reduceAdd,Int.reduceSub,Int.reduceLT,Int.reduceLE,Int.reduceEq,Int.reduceNeg,↓reduceIte,reduceCtorEq,scL,scD,expand,List.replicate])|apply gC_drawW|((first|apply gI_dec|apply gG_dec|apply gPG_dec|apply gI_var|apply gG_var|apply gPG_var)<;>intro _))
    refine callV_flat (by rw[hC];exact hl.flat rfl rfl) ?_
    repeat' (first|(simp (disch:=first|omega|assumption|exact bd (by with_unfolding_all rfl)|exact Or.inl rfl|exact Or.inl trivial|exact okL_map _ (fun _=>rfl) _|(simp only[VVlen]<;>omega)|fail) only[VV0,VV1,VV2,VV3,VV4,VV5,VV6,VV7,VV8,VV9,mkFnV,vargs,slotsL,opdsA,Nat.reduceEqDiff,Nat.reduceLT,Nat.reduceAdd,Nat.reduceBEq,Int.reduceAdd,Int.reduceSub,Int.reduceLT,Int.reduceLE,Int.reduceEq,Int.reduceNeg,↓reduceIte,reduceCtorEq,scL,scD,expand,List.replicate,ht])|apply gC_drawW|((first|apply gI_dec|apply gG_dec|apply gPG_dec|apply gI_var|apply gG_var|apply gPG_var)<;>intro _))
    exact weak_flat rfl h0 rfl
   ·repeat' (first|(simp (disch:=first|omega|assumption|exact bd (by with_unfolding_all rfl)|exact Or.inl rfl|exact Or.inl trivial|exact okL_map _ (fun _=>rfl) _|(simp only[VVlen]<;>omega)|fail) only[VV0,VV1,VV2,VV3,VV4,VV5,VV6,VV7,VV8,VV9,mkFnV,vargs,slotsL,opdsA,Nat.reduceEqDiff,Nat.reduceLT,Nat.reduceAdd,Nat.reduceBEq,Int.reduceAdd,Int.reduceSub,Int.reduceLT,Int.reduceLE,Int.reduceEq,Int.reduceNeg,↓reduceIte,reduceCtorEq,scL,scD,expand,List.replicate,rdC5,rdC4,rdC3,rdC2,rdC1,c11,AC.r])|apply gC_drawW|((first|apply gI_dec|apply gG_dec|apply gPG_dec|apply gI_var|apply gG_var|apply gPG_var)<;>intro _))
    refine callV_flat (by rw[hC];exact hbi.flat rfl rfl) ?_
    repeat' (first|(simp (disch:=first|omega|assumption|exact bd (by with_unfolding_all rfl)|exact Or.inl rfl|exact Or.inl trivial|exact okL_map _ (fun _=>rfl) _|(simp only[VVlen]<;>omega)|fail) only[VV0,VV1,VV2,VV3,VV4,VV5,VV6,VV7,VV8,VV9,mkFnV,vargs,slotsL,opdsA,Nat.reduceEqDiff,Nat.reduceLT,Nat.reduceAdd,Nat.reduceBEq,Int.reduceAdd,Int.reduceSub,Int.reduceLT,Int.reduceLE,Int.reduceEq,Int.reduceNeg,↓reduceIte,reduceCtorEq,scL,scD,expand,List.replicate])|apply gC_drawW|((first|apply gI_dec|apply gG_dec|apply gPG_dec|apply gI_var|apply gG_var|apply gPG_var)<;>intro _))
    refine callV_flat (by rw[hC];exact hl.flat rfl rfl) ?_
    repeat' (first|(simp (disch:=first|omega|assumption|exact bd (by with_unfolding_all rfl)|exact Or.inl rfl|exact Or.inl trivial|exact okL_map _ (fun _=>rfl) _|(simp only[VVlen]<;>omega)|fail) only[VV0,VV1,VV2,VV3,VV4,VV5,VV6,VV7,VV8,VV9,mkFnV,vargs,slotsL,opdsA,Nat.reduceEqDiff,Nat.reduceLT,Nat.reduceAdd,Nat.reduceBEq,Int.reduceAdd,Int.reduceSub,Int.reduceLT,Int.reduceLE,Int.reduceEq,Int.reduceNeg,↓reduceIte,reduceCtorEq,scL,scD,expand,List.replicate,ht])|apply gC_drawW|((first|apply gI_dec|apply gG_dec|apply gPG_dec|apply gI_var|apply gG_var|apply gPG_var)<;>intro _))
    exact weak_flat rfl h0 rfl
  ·rw[readO_none fun i0 h1 h2=>ht (by rw[hi i0 h1 h2.symm];exact h2)]
   rcases hfr with rfl|⟨ws,a,rfl⟩
   ·repeat' (first|(simp (disch:=first|omega|assumption|exact bd (by with_unfolding_all rfl)|exact Or.inl rfl|exact Or.inl trivial|exact okL_map _ (fun _=>rfl) _|(simp only[VVlen]<;>omega)|fail) only[VV0,VV1,VV2,VV3,VV4,VV5,VV6,VV7,VV8,VV9,mkFnV,vargs,slotsL,opdsA,Nat.reduceEqDiff,Nat.reduceLT,Nat.reduceAdd,Nat.reduceBEq,Int.reduceAdd,Int.reduceSub,Int.reduceLT,Int.reduceLE,Int.reduceEq,Int.reduceNeg,↓reduceIte,reduceCtorEq,scL,scD,expand,List.replicate,rdC5,rdC4,rdC3,rdC2,rdC1,c11,AC.r])|apply gC_drawW|((first|apply gI_dec|apply gG_dec|apply gPG_dec|apply gI_var|apply gG_var|apply gPG_var)<;>intro _))
    refine callV_flat (by rw[hC];exact hbi.flat rfl rfl) ?_
    repeat' (first|(simp (disch:=first|omega|assumption|exact bd (by with_unfolding_all rfl)|exact Or.inl rfl|exact Or.inl trivial|exact okL_map _ (fun _=>rfl) _|(simp only[VVlen]<;>omega)|fail) only[VV0,VV1,VV2,VV3,VV4,VV5,VV6,VV7,VV8,VV9,mkFnV,vargs,slotsL,opdsA,Nat.reduceEqDiff,Nat.reduceLT,Nat.reduceAdd,Nat.reduceBEq,Int.reduceAdd,Int.reduceSub,Int.reduceLT,Int.reduceLE,Int.reduceEq,Int.reduceNeg,↓reduceIte,reduceCtorEq,scL,scD,expand,List.replicate])|apply gC_drawW|((first|apply gI_dec|apply gG_dec|apply gPG_dec|apply gI_var|apply gG_var|apply gPG_var)<;>intro _))
    refine callV_flat (by rw[hC];exact hl.flat rfl rfl) ?_
    repeat' (first|(simp (disch:=first|omega|assumption|exact bd (by with_unfolding_all rfl)|exact Or.inl rfl|exact Or.inl trivial|exact okL_map _ (fun _=>rfl) _|(simp only[VVlen]<;>omega)|fail) only[VV0,VV1,VV2,VV3,VV4,VV5,VV6,VV7,VV8,VV9,mkFnV,vargs,slotsL,opdsA,Nat.reduceEqDiff,Nat.reduceLT,Nat.reduceAdd,Nat.reduceBEq,Int.reduceAdd,Int.reduceSub,Int.reduceLT,Int.reduceLE,Int.reduceEq,Int.reduceNeg,↓reduceIte,reduceCtorEq,scL,scD,expand,List.replicate,ht,mk_inj])|apply gC_drawW|((first|apply gI_dec|apply gG_dec|apply gPG_dec|apply gI_var|apply gG_var|apply gPG_var)<;>intro _))
    exact weak_flat rfl h0 rfl
   ·repeat' (first|(simp (disch:=first|omega|assumption|exact bd (by with_unfolding_all rfl)|exact Or.inl rfl|exact Or.inl trivial|exact okL_map _ (fun _=>rfl) _|(simp only[VVlen]<;>omega)|fail) only[VV0,VV1,VV2,VV3,VV4,VV5,VV6,VV7,VV8,VV9,mkFnV,vargs,slotsL,opdsA,Nat.reduceEqDiff,Nat.reduceLT,Nat.reduceAdd,Nat.reduceBEq,Int.reduceAdd,Int.reduceSub,Int.reduceLT,Int.reduceLE,Int.reduceEq,Int.reduceNeg,↓reduceIte,reduceCtorEq,scL,scD,expand,List.replicate,rdC5,rdC4,rdC3,rdC2,rdC1,c11,AC.r])|apply gC_drawW|((first|apply gI_dec|apply gG_dec|apply gPG_dec|apply gI_var|apply gG_var|apply gPG_var)<;>intro _))
    refine callV_flat (by rw[hC];exact hbi.flat rfl rfl) ?_
    repeat' (first|(simp (disch:=first|omega|assumption|exact bd (by with_unfolding_all rfl)|exact Or.inl rfl|exact Or.inl trivial|exact okL_map _ (fun _=>rfl) _|(simp only[VVlen]<;>omega)|fail) only[VV0,VV1,VV2,VV3,VV4,VV5,VV6,VV7,VV8,VV9,mkFnV,vargs,slotsL,opdsA,Nat.reduceEqDiff,Nat.reduceLT,Nat.reduceAdd,Nat.reduceBEq,Int.reduceAdd,Int.reduceSub,Int.reduceLT,Int.reduceLE,Int.reduceEq,Int.reduceNeg,↓reduceIte,reduceCtorEq,scL,scD,expand,List.replicate])|apply gC_drawW|((first|apply gI_dec|apply gG_dec|apply gPG_dec|apply gI_var|apply gG_var|apply gPG_var)<;>intro _))
    refine callV_flat (by rw[hC];exact hl.flat rfl rfl) ?_
    repeat' (first|(simp (disch:=first|omega|assumption|exact bd (by with_unfolding_all rfl)|exact Or.inl rfl|exact Or.inl trivial|exact okL_map _ (fun _=>rfl) _|(simp only[VVlen]<;>omega)|fail) only[VV0,VV1,VV2,VV3,VV4,VV5,VV6,VV7,VV8,VV9,mkFnV,vargs,slotsL,opdsA,Nat.reduceEqDiff,Nat.reduceLT,Nat.reduceAdd,Nat.reduceBEq,Int.reduceAdd,Int.reduceSub,Int.reduceLT,Int.reduceLE,Int.reduceEq,Int.reduceNeg,↓reduceIte,reduceCtorEq,scL,scD,expand,List.replicate,ht,mk_inj])|apply gC_drawW|((first|apply gI_dec|apply gG_dec|apply gPG_dec|apply gI_var|apply gG_var|apply gPG_var)<;>intro _))
    exact weak_flat rfl h0 rfl
 ·rw[readO_none fun i0 h1 h2=>hv (by rw[hi i0 h1 h2.symm];exact insOK_iff.2 h1)]
  rw[if_neg hv] at hbi
  unfold insV at hbi
  rcases hfr with rfl|⟨ws,a,rfl⟩
  ·repeat' (first|(simp (disch:=first|omega|assumption|exact bd (by with_unfolding_all rfl)|exact Or.inl rfl|exact Or.inl trivial|exact okL_map _ (fun _=>rfl) _|(simp only[VVlen]<;>omega)|fail) only[VV0,VV1,VV2,VV3,VV4,VV5,VV6,VV7,VV8,VV9,mkFnV,vargs,slotsL,opdsA,Nat.reduceEqDiff,Nat.reduceLT,Nat.reduceAdd,Nat.reduceBEq,Int.reduceAdd,Int.reduceSub,Int.reduceLT,Int.reduceLE,Int.reduceEq,Int.reduceNeg,↓reduceIte,reduceCtorEq,scL,scD,expand,List.replicate,rdC5,rdC4,rdC3,rdC2,rdC1,c11,AC.r])|apply gC_drawW|((first|apply gI_dec|apply gG_dec|apply gPG_dec|apply gI_var|apply gG_var|apply gPG_var)<;>intro _))
   refine callV_flat (by rw[hC];exact hbi.flat rfl rfl) ?_
   repeat' (first|(simp (disch:=first|omega|assumption|exact bd (by with_unfolding_all rfl)|exact Or.inl rfl|exact Or.inl trivial|exact okL_map _ (fun _=>rfl) _|(simp only[VVlen]<;>omega)|fail) only[VV0,VV1,VV2,VV3,VV4,VV5,VV6,VV7,VV8,VV9,mkFnV,vargs,slotsL,opdsA,Nat.reduceEqDiff,Nat.reduceLT,Nat.reduceAdd,Nat.reduceBEq,Int.reduceAdd,Int.reduceSub,Int.reduceLT,Int.reduceLE,Int.reduceEq,Int.reduceNeg,↓reduceIte,reduceCtorEq,scL,scD,expand,List.replicate])|apply gC_drawW|((first|apply gI_dec|apply gG_dec|apply gPG_dec|apply gI_var|apply gG_var|apply gPG_var)<;>intro _))
   exact weak_flat rfl h0 rfl
  ·repeat' (first|(simp (disch:=first|omega|assumption|exact bd (by with_unfolding_all rfl)|exact Or.inl rfl|exact Or.inl trivial|exact okL_map _ (fun _=>rfl) _|(simp only[VVlen]<;>omega)|fail) only[VV0,VV1,VV2,VV3,VV4,VV5,VV6,VV7,VV8,VV9,mkFnV,vargs,slotsL,opdsA,Nat.reduceEqDiff,Nat.reduceLT,Nat.reduceAdd,Nat.reduceBEq,Int.reduceAdd,Int.reduceSub,Int.reduceLT,Int.reduceLE,Int.reduceEq,Int.reduceNeg,↓reduceIte,reduceCtorEq,scL,scD,expand,List.replicate,rdC5,rdC4,rdC3,rdC2,rdC1,c11,AC.r])|apply gC_drawW|((first|apply gI_dec|apply gG_dec|apply gPG_dec|apply gI_var|apply gG_var|apply gPG_var)<;>intro _))
   refine callV_flat (by rw[hC];exact hbi.flat rfl rfl) ?_
   repeat' (first|(simp (disch:=first|omega|assumption|exact bd (by with_unfolding_all rfl)|exact Or.inl rfl|exact Or.inl trivial|exact okL_map _ (fun _=>rfl) _|(simp only[VVlen]<;>omega)|fail) only[VV0,VV1,VV2,VV3,VV4,VV5,VV6,VV7,VV8,VV9,mkFnV,vargs,slotsL,opdsA,Nat.reduceEqDiff,Nat.reduceLT,Nat.reduceAdd,Nat.reduceBEq,Int.reduceAdd,Int.reduceSub,Int.reduceLT,Int.reduceLE,Int.reduceEq,Int.reduceNeg,↓reduceIte,reduceCtorEq,scL,scD,expand,List.replicate])|apply gC_drawW|((first|apply gI_dec|apply gG_dec|apply gPG_dec|apply gI_var|apply gG_var|apply gPG_var)<;>intro _))
   exact weak_flat rfl h0 rfl
abbrev RdP (C:Ctx) (s:List UInt8):VPost:=RetV C c11.res (resI (readO s)) ⟨[],0,0⟩
theorem rd_t4 {C:Ctx} (hC:C.E=EN w (n+4)) (h0:C.w0.nx=0) (s:List UInt8) (ws:List (List UInt8)) (hws:ws=words 32 s) (hwl:ws.length≤1000) (hx:∀ x ∈ ws,x.length≤1000000) (op:Nat) (hop:op<10) (r:Bool) (b:Nat) (p t:Int) (a:Nat) (ha:a≤4)
  (hi:∀ i0,InsP i0→s=textI i0→op=i0.op∧r=i0.right∧b=i0.bed∧p=i0.pos∧t=i0.to∧a=(if i0.op=6 then 4 else if 3≤i0.op∧i0.op≤5 then 3 else if i0.op=7 then 3 else if i0.op=9 then 2 else 1)) {e:VFr} (he:rdE 86 e):
  gC C rdC4 [] (rdF s ws a e) (rdH ⟨op,r,b,p,t,0,0⟩) (RdP C s):=by
 change gC C (.seq (AC.l rdC4) rdC5) _ _ _ _
 refine rd_b4 w (n+1) hC he s ws ⟨op,r,b,p,t,0,0⟩ a hwl hx (by omega) hop (fun hc z hz=>?_) (fun hc=>?_)
 ·by_cases h8:op=8
  ·rw[if_pos h8]
   refine rd_t5 w n hC h0 s _ (fun i0 h1 h2=>?_) (.inl rfl)
   obtain ⟨e1,e2,e3,e4,e5,e6⟩:=hi i0 h1 h2
   obtain ⟨f0,f1,f2,f3,f4,f5,f6,f7⟩:=ws_facts h1
   obtain ⟨g0,g1,g2,g3,g4,g5⟩:=insP_rest0 h1
   have h88:i0.op=8:=by omega
   have ha1:a=1:=by rw[e6,h88];rfl
   have:=hz i0.rack (by omega) (by omega) (by rw[ha1,hws,h2];exact (f6 h88).2)
   exact Ins.ext' e1 e2 e3 e4 e5 (g3 (by omega)).symm this
  ·rw[if_neg h8]
   refine rd_t5 w n hC h0 s _ (fun i0 h1 h2=>?_) (.inl rfl)
   obtain ⟨e1,e2,e3,e4,e5,e6⟩:=hi i0 h1 h2
   obtain ⟨f0,f1,f2,f3,f4,f5,f6,f7⟩:=ws_facts h1
   obtain ⟨g0,g1,g2,g3,g4,g5⟩:=insP_rest0 h1
   simp only at hc
   have:=hz i0.car (by omega) (by omega) (by
    rw[hws,h2]
    by_cases k6:i0.op=6
    ·have:a=4:=by rw[e6,if_pos k6]
     rw[this];exact (f3 k6).2.2
    by_cases k3:3≤i0.op∧i0.op≤5
    ·have:a=3:=by rw[e6,if_neg k6,if_pos k3]
     rw[this];exact f2 k3
    have k1:i0.op≤2:=by omega
    have:a=1:=by rw[e6,if_neg k6,if_neg k3,if_neg (by omega),if_neg (by omega)]
    rw[this];exact (f7 k1).2)
   exact Ins.ext' e1 e2 e3 e4 e5 this (g4 (by omega)).symm
 ·refine rd_t5 w n hC h0 s _ (fun i0 h1 h2=>?_) (.inr ⟨_,_,rfl⟩)
  obtain ⟨e1,e2,e3,e4,e5,e6⟩:=hi i0 h1 h2
  obtain ⟨f0,f1,f2,f3,f4,f5,f6,f7⟩:=ws_facts h1
  obtain ⟨g0,g1,g2,g3,g4,g5⟩:=insP_rest0 h1
  simp only at hc
  have h79:i0.op=7∨i0.op=9:=by
   by_cases h79:i0.op=7∨i0.op=9
   ·exact h79
   exfalso
   refine hc ⟨by omega,by omega,?_⟩
   rw[hws,h2]
   have hop1:=h1.op_lt
   by_cases k6:i0.op=6
   ·have:a=4:=by rw[e6,if_pos k6]
    have:=(f3 k6).1;omega
   by_cases k3:3≤i0.op∧i0.op≤5
   ·have:a=3:=by rw[e6,if_neg k6,if_pos k3]
    have:=(f1 (by omega)).1;omega
   have:a=1:=by rw[e6,if_neg k6,if_neg k3,if_neg (by omega),if_neg (by omega)]
   by_cases k8:i0.op=8
   ·have:=(f6 k8).1;omega
   ·have:=(f7 (by omega)).1;omega
  exact Ins.ext' e1 e2 e3 e4 e5 (g3 (by omega)).symm (g4 (by omega)).symm
theorem rd_t3 {C:Ctx} (hC:C.E=EN w (n+4)) (h0:C.w0.nx=0) (s:List UInt8) (ws:List (List UInt8)) (hws:ws=words 32 s) (hwl:ws.length≤1000) (hx:∀ x ∈ ws,x.length≤1000000) (op:Nat) (hop:op<10) (r:Bool) (b:Nat) (p:Int) (a:Nat) (ha:a≤3)
  (hi:∀ i0,InsP i0→s=textI i0→op=i0.op∧r=i0.right∧b=i0.bed∧p=i0.pos∧a=(if 3≤i0.op∧i0.op≤6 then 3 else if i0.op=7∨i0.op=9 then 2 else 1)) {e:VFr} (he:rdE 59 e):
  gC C rdC3 [] (rdF s ws a e) (rdH ⟨op,r,b,p,0,0,0⟩) (RdP C s):=by
 change gC C (.seq (AC.l rdC3) rdC4) _ _ _ _
 refine rd_b3 w (n+1) hC he s ws ⟨op,r,b,p,0,0,0⟩ a hwl hx (by omega) hop (fun hc z hz=>?_) (fun hc=>?_)
 ·refine rd_t4 w n hC h0 s ws hws hwl hx op hop r b p z (a+1) (by omega) (fun i0 h1 h2=>?_) (.inl rfl)
  obtain ⟨e1,e2,e3,e4,e6⟩:=hi i0 h1 h2
  obtain ⟨f0,f1,f2,f3,f4,f5,f6,f7⟩:=ws_facts h1
  obtain ⟨g0,g1,g2,g3,g4,g5⟩:=insP_rest0 h1
  simp only at hc
  refine ⟨e1,e2,e3,e4,hz (1 - i0.bed) i0.to (by omega) (by omega) (by omega) ?_,?_⟩
  ·rw[hws,h2]
   by_cases k6:i0.op=6
   ·have:a=3:=by rw[e6,if_pos (by omega)]
    rw[this];exact (f3 k6).2.1
   ·have:a=2:=by rw[e6,if_neg (by omega),if_pos (by omega)]
    rw[this];exact (f4 (by omega)).2.2
  ·split at e6<;>(repeat' split at e6)<;>(repeat' split)<;>omega
 ·refine rd_t4 w n hC h0 s ws hws hwl hx op hop r b p 0 a (by omega) (fun i0 h1 h2=>?_) (.inr rfl)
  obtain ⟨e1,e2,e3,e4,e6⟩:=hi i0 h1 h2
  obtain ⟨f0,f1,f2,f3,f4,f5,f6,f7⟩:=ws_facts h1
  obtain ⟨g0,g1,g2,g3,g4,g5⟩:=insP_rest0 h1
  simp only at hc
  have hop1:=h1.op_lt
  have h67:i0.op ≠ 6∧i0.op ≠ 7:=by
   refine ⟨fun k=>hc ⟨by omega,?_⟩,fun k=>hc ⟨by omega,?_⟩⟩
   ·have:a=3:=by rw[e6,if_pos (by omega)]
    rw[hws,h2]
    have:=(f3 k).1;omega
   ·have:a=2:=by rw[e6,if_neg (by omega),if_pos (by omega)]
    rw[hws,h2]
    have:=(f4 k).1;omega
  refine ⟨e1,e2,e3,e4,(g2 h67).symm,?_⟩
  split at e6<;>(repeat' split at e6)<;>(repeat' split)<;>omega
theorem rd_t2 {C:Ctx} (hC:C.E=EN w (n+4)) (h0:C.w0.nx=0) (s:List UInt8) (ws:List (List UInt8)) (hws:ws=words 32 s) (hwl:ws.length≤1000) (hx:∀ x ∈ ws,x.length≤1000000) (op:Nat) (hop:op<10) (r:Bool) (a:Nat) (ha:a≤2)
  (hi:∀ i0,InsP i0→s=textI i0→op=i0.op∧r=i0.right∧a=(if 3≤i0.op∧i0.op≤6 then 2 else 1)) {e:VFr} (he:rdE 40 e):
  gC C rdC2 [] (rdF s ws a e) (rdH ⟨op,r,0,0,0,0,0⟩) (RdP C s):=by
 change gC C (.seq (AC.l rdC2) rdC3) _ _ _ _
 refine rd_b2 w (n+1) hC he s ws ⟨op,r,0,0,0,0,0⟩ a hwl hx (by omega) hop (fun hc b z hz=>?_) (fun hc=>?_)
 ·refine rd_t3 w n hC h0 s ws hws hwl hx op hop r b z (a+1) (by omega) (fun i0 h1 h2=>?_) (.inl rfl)
  obtain ⟨e1,e2,e6⟩:=hi i0 h1 h2
  obtain ⟨f0,f1,f2,f3,f4,f5,f6,f7⟩:=ws_facts h1
  obtain ⟨g0,g1,g2,g3,g4,g5⟩:=insP_rest0 h1
  have hop1:=h1.op_lt
  simp only at hc
  obtain ⟨z1,z2⟩:=hz i0.bed i0.pos (by omega) (by omega) (by omega) (by
   rw[hws,h2]
   by_cases k6:3≤i0.op∧i0.op≤6
   ·have:a=2:=by rw[e6,if_pos (by omega)]
    rw[this];exact (f1 k6).2.2
   have:a=1:=by rw[e6,if_neg (by omega)]
   rw[this]
   by_cases k7:i0.op=7
   ·exact (f4 k7).2.1
   ·exact (f5 (by omega)).2)
  refine ⟨e1,e2,z1,z2,?_⟩
  split at e6<;>(repeat' split)<;>omega
 ·refine rd_t3 w n hC h0 s ws hws hwl hx op hop r 0 0 a (by omega) (fun i0 h1 h2=>?_) (.inr rfl)
  obtain ⟨e1,e2,e6⟩:=hi i0 h1 h2
  obtain ⟨f0,f1,f2,f3,f4,f5,f6,f7⟩:=ws_facts h1
  obtain ⟨g0,g1,g2,g3,g4,g5⟩:=insP_rest0 h1
  have hop1:=h1.op_lt
  simp only at hc
  have k:i0.op≤2∨i0.op=8:=by
   by_cases k:i0.op≤2∨i0.op=8
   ·exact k
   exfalso
   refine hc ⟨by omega,by omega,?_⟩
   rw[hws,h2]
   by_cases k6:3≤i0.op∧i0.op≤6
   ·have:a=2:=by rw[e6,if_pos (by omega)]
    have:=(f1 k6).1;omega
   have:a=1:=by rw[e6,if_neg (by omega)]
   by_cases k7:i0.op=7
   ·have:=(f4 k7).1;omega
   ·have:=(f5 (by omega)).1;omega
  refine ⟨e1,e2,(g1 k).1.symm,(g1 k).2.symm,?_⟩
  split at e6<;>(repeat' split)<;>omega
theorem rd_t1 {C:Ctx} (hC:C.E=EN w (n+4)) (h0:C.w0.nx=0) (s:List UInt8) (ws:List (List UInt8)) (hws:ws=words 32 s) (hwl:ws.length≤1000) (hx:∀ x ∈ ws,x.length≤1000000) (op:Nat) (hop:op<10)
  (hi:∀ i0,InsP i0→s=textI i0→op=i0.op):
  gC C rdC1 [] (rdF s ws 1 []) (rdH ⟨op,false,0,0,0,0,0⟩) (RdP C s):=by
 change gC C (.seq (AC.l rdC1) rdC2) _ _ _ _
 refine rd_b1 s ws ⟨op,false,0,0,0,0,0⟩ hwl hop (fun hc=>?_) (fun hc=>?_)
 ·refine rd_t2 w n hC h0 s ws hws hwl hx op hop _ 2 (by omega) (fun i0 h1 h2=>?_) (.inl rfl)
  have e1:=hi i0 h1 h2
  obtain ⟨f0,f1,f2,f3,f4,f5,f6,f7⟩:=ws_facts h1
  simp only at hc
  refine ⟨e1,?_,by rw[if_pos (by omega)]⟩
  rw[hws,h2,(f1 (by omega)).2.1]
  cases i0.right<;>rfl
 ·refine rd_t2 w n hC h0 s ws hws hwl hx op hop _ 1 (by omega) (fun i0 h1 h2=>?_) (.inr rfl)
  have e1:=hi i0 h1 h2
  obtain ⟨f0,f1,f2,f3,f4,f5,f6,f7⟩:=ws_facts h1
  simp only at hc
  have k:¬ (3≤i0.op∧i0.op≤6):=fun k=>hc ⟨by omega,by omega,by rw[hws,h2];have:=(f1 k).1;omega⟩
  exact ⟨e1,((insP_rest0 h1).1 k).symm,by rw[if_neg k]⟩
end
end Go.Proofs.YtbefpfbidgfipaaDoor
namespace Go.Proofs.YtbefpfbidgfipaaDoor
open Go Go.Itp
set_option maxRecDepth 100000
set_option maxHeartbeats 4000000
set_option linter.unusedSimpArgs false
set_option linter.unusedVariables false
section
variable (w:World) (n:Nat)
theorem rd_loop {C:Ctx} (hC:C.E=EN w (n+4)) (h0:C.w0.nx=0) (s:List UInt8) (ws:List (List UInt8)) (wd:List UInt8) (hwl:0<ws.length) (hwl2:ws.length≤1000) (hwd:ws[0]! =wd) (hwdl:wd.length≤1000000) {K:List KF} {P:VPost}
  (hgo:∀ fr,fr= [(0,strV s),(2,.ptr 0 0),(4,strs 2 ws),(5,.ptr 1 0),(6,.sc (.int .u8 10))]∨fr= [(0,strV s),(2,.ptr 0 0),(4,strs 2 ws),(5,.ptr 1 0),(6,.sc (.int .u8 10)),(17,.sc (.bool false))]→gK C K (.exit 0) fr (rdH ⟨opN wd 10,false,0,0,0,0,0⟩) P) {fr0:VFr} {st0:VSt}
  (hst:Weak C fr0 st0 [(0,strV s),(2,.ptr 0 0),(4,strs 2 ws),(5,.ptr 1 0),(6,.sc (.int .u8 1))] (rdH ⟨opN wd 1,false,0,0,0,0,0⟩)):
  gL C [0,2,4,5,6] c11l0 K fr0 st0 P:=by
 have hrn:C.E.rounds=many:=by rw[hC,callP_rounds]
 have hwm:(ws.map sD).length=ws.length:=by rw[List.length_map]
 have t1:ws[Int.toNat 0]! =wd:=hwd
 refine g_while (fun m fr st=>∃ k:Nat,1≤k∧k≤10∧m=10 - k∧fr= [(0,strV s),(2,.ptr 0 0),(4,strs 2 ws),(5,.ptr 1 0),(6,.sc (.int .u8 k))]∧st=rdH ⟨opN wd k,false,0,0,0,0,0⟩) 9 ?_ ⟨_,_,hst,1,by omega,by omega,by omega,rfl,rfl⟩ ?_
 ·rw[hrn];unfold many;omega
 rintro m fr st ⟨k,hk1,hk2,rfl,rfl,rfl⟩
 by_cases hk:k=10
 ·subst hk
  have hgo:=fun fr hfr=>hgo fr hfr
  repeat' (first|(simp (disch:=first|omega|assumption|exact bd (by with_unfolding_all rfl)|exact Or.inl rfl|exact Or.inl trivial|exact okL_map _ (fun _=>rfl) _|(simp only[VVlen]<;>omega)|fail) only[VV0,VV1,VV2,VV3,VV4,VV5,VV6,VV7,VV8,VV9,mkFnV,vargs,slotsL,opdsA,Nat.reduceEqDiff,Nat.reduceLT,Nat.reduceAdd,Nat.reduceBEq,Int.reduceAdd,Int.reduceSub,Int.reduceLT,Int.reduceLE,Int.reduceEq,Int.reduceNeg,↓reduceIte,reduceCtorEq,scL,scD,expand,List.replicate,c11l0])|apply gC_drawW|((first|apply gI_dec|apply gG_dec|apply gPG_dec|apply gI_var|apply gG_var|apply gPG_var)<;>intro _))
  all_goals try (exfalso;omega)
  exact hgo _ (.inr rfl)
 ·have hn:=(rnames_p w (n+3) k (by omega)).of hC rfl
  have hnl:=nameI_len5 k (by omega)
  have hwr:IntKind.u8.wrap ((k:Int)+1)=((k+1:Nat):Int):=by rw[wrap_u8 _ (by omega) (by omega)];omega
  have hdone:∀ (o:Nat) (fr:VFr) (st:VSt),opN wd (k+1)=o→Weak C fr st [(0,strV s),(2,.ptr 0 0),(4,strs 2 ws),(5,.ptr 1 0),(6,.sc (.int .u8 (k+1:Nat)))] (rdH ⟨o,false,0,0,0,0,0⟩)→
    ∃ m' fr' st',m'<10 - k∧Weak C fr st fr' st'∧∃ k:Nat,1≤k∧k≤10∧m'=10 - k∧fr'= [(0,strV s),(2,.ptr 0 0),(4,strs 2 ws),(5,.ptr 1 0),(6,.sc (.int .u8 k))]∧st'=rdH ⟨opN wd k,false,0,0,0,0,0⟩:=fun o fr st ho hw=>by
   subst ho
   exact ⟨10 - (k+1),_,_,by omega,hw,k+1,by omega,by omega,rfl,rfl,rfl⟩
  by_cases he:nameI k=wd
  ·have ho:opN wd (k+1)=k:=by show (if 0<k∧nameI k=wd then k else opN wd k)=k;rw[if_pos ⟨by omega,he⟩]
   repeat' (first|(simp (disch:=first|omega|assumption|exact bd (by with_unfolding_all rfl)|exact Or.inl rfl|exact Or.inl trivial|exact okL_map _ (fun _=>rfl) _|(simp only[VVlen]<;>omega)|fail) only[VV0,VV1,VV2,VV3,VV4,VV5,VV6,VV7,VV8,VV9,mkFnV,vargs,slotsL,opdsA,Nat.reduceEqDiff,Nat.reduceLT,Nat.reduceAdd,Nat.reduceBEq,Int.reduceAdd,Int.reduceSub,Int.reduceLT,Int.reduceLE,Int.reduceEq,Int.reduceNeg,↓reduceIte,reduceCtorEq,scL,scD,expand,List.replicate,c11l0])|apply gC_drawW|((first|apply gI_dec|apply gG_dec|apply gPG_dec|apply gI_var|apply gG_var|apply gPG_var)<;>intro _))
   all_goals try (exfalso;omega)
   refine call0_of (hn _ rfl) ?_
   repeat' (first|(simp (disch:=first|omega|assumption|exact bd (by with_unfolding_all rfl)|exact Or.inl rfl|exact Or.inl trivial|exact okL_map _ (fun _=>rfl) _|(simp only[VVlen]<;>omega)|fail) only[VV0,VV1,VV2,VV3,VV4,VV5,VV6,VV7,VV8,VV9,mkFnV,vargs,slotsL,opdsA,Nat.reduceEqDiff,Nat.reduceLT,Nat.reduceAdd,Nat.reduceBEq,Int.reduceAdd,Int.reduceSub,Int.reduceLT,Int.reduceLE,Int.reduceEq,Int.reduceNeg,↓reduceIte,reduceCtorEq,scL,scD,expand,List.replicate,sD_dv,t1,he,hwr])|apply gC_drawW|((first|apply gI_dec|apply gG_dec|apply gPG_dec|apply gI_var|apply gG_var|apply gPG_var)<;>intro _))
   all_goals try (exfalso;omega)
   refine hdone k _ _ ho (weak_to [(1,1),(0,0)] 2 h0 rfl rfl rfl rfl)
  ·have ho:opN wd (k+1)=opN wd k:=by show (if 0<k∧nameI k=wd then k else opN wd k)=_;rw[if_neg (fun h=>he h.2)]
   generalize nameI k=nm at*
   repeat' (first|(simp (disch:=first|omega|assumption|exact bd (by with_unfolding_all rfl)|exact Or.inl rfl|exact Or.inl trivial|exact okL_map _ (fun _=>rfl) _|(simp only[VVlen]<;>omega)|fail) only[VV0,VV1,VV2,VV3,VV4,VV5,VV6,VV7,VV8,VV9,mkFnV,vargs,slotsL,opdsA,Nat.reduceEqDiff,Nat.reduceLT,Nat.reduceAdd,Nat.reduceBEq,Int.reduceAdd,Int.reduceSub,Int.reduceLT,Int.reduceLE,Int.reduceEq,Int.reduceNeg,↓reduceIte,reduceCtorEq,scL,scD,expand,List.replicate,c11l0])|apply gC_drawW|((first|apply gI_dec|apply gG_dec|apply gPG_dec|apply gI_var|apply gG_var|apply gPG_var)<;>intro _))
   all_goals try (exfalso;omega)
   refine call0_of (hn _ rfl) ?_
   repeat' (first|(simp (disch:=first|omega|assumption|exact bd (by with_unfolding_all rfl)|exact Or.inl rfl|exact Or.inl trivial|exact okL_map _ (fun _=>rfl) _|(simp only[VVlen]<;>omega)|fail) only[VV0,VV1,VV2,VV3,VV4,VV5,VV6,VV7,VV8,VV9,mkFnV,vargs,slotsL,opdsA,Nat.reduceEqDiff,Nat.reduceLT,Nat.reduceAdd,Nat.reduceBEq,Int.reduceAdd,Int.reduceSub,Int.reduceLT,Int.reduceLE,Int.reduceEq,Int.reduceNeg,↓reduceIte,reduceCtorEq,scL,scD,expand,List.replicate,sD_dv,t1,he,mk_inj,hwr])|apply gC_drawW|((first|apply gI_dec|apply gG_dec|apply gPG_dec|apply gI_var|apply gG_var|apply gPG_var)<;>intro _))
   all_goals try (exfalso;omega)
   refine hdone _ _ _ ho (weak_to [(1,1),(0,0)] 2 h0 rfl rfl rfl rfl)
theorem rread_p (s:List UInt8) (hs:s.length≤1000000):VSpec (EN w (n+5)) 11 [strV s] (resI (readO s)) ⟨[],0,0⟩:=by
 refine vspec_flat rfl rfl (fun _ _=>rfl) (Nat.le_of_ble_eq_true rfl) (oldVals w) (by cases readO s<;>rfl) fun C hC h0=>?_
 by_cases hl:s.length≤40
 case neg=>
  rw[readO_none fun i0 h1 h2=>by have:=textI_len40 h1;rw[h2] at this;omega]
  have hsz:=mk_size s
  have hl2:(40:Int)<s.length:=by omega
  repeat' (first|(simp (disch:=first|omega|assumption|exact bd (by with_unfolding_all rfl)|exact Or.inl rfl|exact Or.inl trivial|exact okL_map _ (fun _=>rfl) _|(simp only[VVlen]<;>omega)|fail) only[VV0,VV1,VV2,VV3,VV4,VV5,VV6,VV7,VV8,VV9,mkFnV,vargs,slotsL,opdsA,Nat.reduceEqDiff,Nat.reduceLT,Nat.reduceAdd,Nat.reduceBEq,Int.reduceAdd,Int.reduceSub,Int.reduceLT,Int.reduceLE,Int.reduceEq,Int.reduceNeg,↓reduceIte,reduceCtorEq,scL,scD,expand,List.replicate,c11,hsz])|apply gC_drawW|((first|apply gI_dec|apply gG_dec|apply gPG_dec|apply gI_var|apply gG_var|apply gPG_var)<;>intro _))
  all_goals try (exfalso;omega)
  exact weak_flat rfl h0 rfl
 have hcut:VSpec (EN w (n+4)) 32 [strV s,.sc (.int .u8 32)] (strs 2 (words 32 s)) ⟨[],0,0⟩:=cutF_p w (n+3) s 32 hs
 obtain ⟨hn1,hn2⟩:=words_len (c:=32) s.length (s:=s) (Nat.le_refl _)
 have hpos:0<(words 32 s).length:=List.length_pos_iff.2 (words_ne 32 s)
 obtain ⟨T,hT⟩:∃ T,T=rdC1:=⟨_,rfl⟩
 have hc:c11.code= .seq (AC.l c11.code) (.seq (AC.l (AC.r c11.code)) (.seq (AC.l (AC.r (AC.r c11.code))) (.seq (AC.l (AC.r (AC.r (AC.r c11.code)))) (.seq (AC.l (AC.r (AC.r (AC.r (AC.r c11.code))))) (.seq (AC.l (AC.r (AC.r (AC.r (AC.r (AC.r c11.code)))))) T))))):=by rw[hT];rfl
 rw[hc]
 have hx:∀ x ∈ words 32 s,x.length≤1000000:=fun x hx=>by have:=hn2 x hx;omega
 have ht1:=rd_t1 w n hC h0 s (words 32 s) rfl (by omega) hx (opN (words 32 s)[0]! 10) (opN_10 _) (fun i0 h1 h2=>by
  rw[h2,(ws_facts h1).1]
  exact opN_name _ h1.op_lt.2 h1.op_lt.1)
 rw[← hT] at ht1
 have hwd:(words 32 s)[0]!.length≤1000000:=by
  rw[getElem!_pos _ 0 hpos]
  exact hx _ (List.getElem_mem _)
 generalize words 32 s=ws at*
 generalize hw0:ws[0]! =wd at*
 have hsz:=mk_size s
 have hl2:¬ ((40:Int)<s.length):=by omega
 repeat' (first|(simp (disch:=first|omega|assumption|exact bd (by with_unfolding_all rfl)|exact Or.inl rfl|exact Or.inl trivial|exact okL_map _ (fun _=>rfl) _|(simp only[VVlen]<;>omega)|fail) only[VV0,VV1,VV2,VV3,VV4,VV5,VV6,VV7,VV8,VV9,mkFnV,vargs,slotsL,opdsA,Nat.reduceEqDiff,Nat.reduceLT,Nat.reduceAdd,Nat.reduceBEq,Int.reduceAdd,Int.reduceSub,Int.reduceLT,Int.reduceLE,Int.reduceEq,Int.reduceNeg,↓reduceIte,reduceCtorEq,scL,scD,expand,List.replicate,AC.l,AC.r,c11,hsz])|apply gC_drawW|((first|apply gI_dec|apply gG_dec|apply gPG_dec|apply gI_var|apply gG_var|apply gPG_var)<;>intro _))
 all_goals try (exfalso;omega)
 refine callV_fin (by rw[hC];exact hcut) rfl rfl (fun _=>rfl) ?_
 repeat' (first|(simp (disch:=first|omega|assumption|exact bd (by with_unfolding_all rfl)|exact Or.inl rfl|exact Or.inl trivial|exact okL_map _ (fun _=>rfl) _|(simp only[VVlen]<;>omega)|fail) only[VV0,VV1,VV2,VV3,VV4,VV5,VV6,VV7,VV8,VV9,mkFnV,vargs,slotsL,opdsA,Nat.reduceEqDiff,Nat.reduceLT,Nat.reduceAdd,Nat.reduceBEq,Int.reduceAdd,Int.reduceSub,Int.reduceLT,Int.reduceLE,Int.reduceEq,Int.reduceNeg,↓reduceIte,reduceCtorEq,scL,scD,expand,List.replicate])|apply gC_drawW|((first|apply gI_dec|apply gG_dec|apply gPG_dec|apply gI_var|apply gG_var|apply gPG_var)<;>intro _))
 refine rd_loop w n hC h0 s ws wd hpos (by omega) hw0 hwd (fun fr hfr=>?_) (weak_to [(1,1),(0,0)] 2 h0 rfl rfl rfl rfl)
 rcases hfr with rfl|rfl
 ·repeat' (first|(simp (disch:=first|omega|assumption|exact bd (by with_unfolding_all rfl)|exact Or.inl rfl|exact Or.inl trivial|exact okL_map _ (fun _=>rfl) _|(simp only[VVlen]<;>omega)|fail) only[VV0,VV1,VV2,VV3,VV4,VV5,VV6,VV7,VV8,VV9,mkFnV,vargs,slotsL,opdsA,Nat.reduceEqDiff,Nat.reduceLT,Nat.reduceAdd,Nat.reduceBEq,Int.reduceAdd,Int.reduceSub,Int.reduceLT,Int.reduceLE,Int.reduceEq,Int.reduceNeg,↓reduceIte,reduceCtorEq,scL,scD,expand,List.replicate])|apply gC_drawW|((first|apply gI_dec|apply gG_dec|apply gPG_dec|apply gI_var|apply gG_var|apply gPG_var)<;>intro _))
  exact ht1
 ·repeat' (first|(simp (disch:=first|omega|assumption|exact bd (by with_unfolding_all rfl)|exact Or.inl rfl|exact Or.inl trivial|exact okL_map _ (fun _=>rfl) _|(simp only[VVlen]<;>omega)|fail) only[VV0,VV1,VV2,VV3,VV4,VV5,VV6,VV7,VV8,VV9,mkFnV,vargs,slotsL,opdsA,Nat.reduceEqDiff,Nat.reduceLT,Nat.reduceAdd,Nat.reduceBEq,Int.reduceAdd,Int.reduceSub,Int.reduceLT,Int.reduceLE,Int.reduceEq,Int.reduceNeg,↓reduceIte,reduceCtorEq,scL,scD,expand,List.replicate])|apply gC_drawW|((first|apply gI_dec|apply gG_dec|apply gPG_dec|apply gI_var|apply gG_var|apply gPG_var)<;>intro _))
  exact ht1
end
end Go.Proofs.YtbefpfbidgfipaaDoor
namespace Go.Proofs.YtbefpfbidgfipaaDoor
open Go Go.Itp
set_option maxRecDepth 100000
set_option maxHeartbeats 4000000
set_option linter.unusedSimpArgs false
set_option linter.unusedVariables false
theorem clines_g (w:World) (i:Ins) (s:List UInt8) (hs:s.length≤140737488351232)
  (hes:(errO Tryd.prog w "strconv.ErrSyntax").isSome=true) (her:(errO Tryd.prog w "strconv.ErrRange").isSome=true) {C:Ctx} (hC:C.E=EN w 8) (h0:C.w0.nx=0):
  gC C c3.code [] (vargs 0 [insV i,strV s]) ⟨[],0,0⟩ (RetV C c3.res (.sc (.bool true)) ⟨[],0,0⟩):=by
 have hsz:=mk_size s
 by_cases hl:1000<s.length
 ·unfold insV
  repeat' (first|(simp (disch:=first|omega|assumption|exact bd (by with_unfolding_all rfl)|exact Or.inl rfl|exact Or.inl trivial|exact okL_map _ (fun _=>rfl) _|(simp only[VVlen]<;>omega)|fail) only[VV0,VV1,VV2,VV3,VV4,VV5,VV6,VV7,VV8,VV9,mkFnV,vargs,slotsL,opdsA,Nat.reduceEqDiff,Nat.reduceLT,Nat.reduceAdd,Nat.reduceBEq,Int.reduceAdd,Int.reduceSub,Int.reduceLT,Int.reduceLE,Int.reduceEq,Int.reduceNeg,↓reduceIte,reduceCtorEq,scL,scD,expand,List.replicate,c3,hsz])|apply gC_drawW|((first|apply gI_dec|apply gG_dec|apply gPG_dec|apply gI_var|apply gG_var|apply gPG_var)<;>intro _))
  all_goals try (exfalso;omega)
  exact weak_flat rfl h0 rfl
 obtain ⟨j,e,hj⟩:∃ j e,resI (readO s)= .tup [insV j,.sc (.int .i64 e)]:=by
  cases readO s with
  |none=>exact ⟨_,_,rfl⟩
  |some j=>exact ⟨_,_,rfl⟩
 have p1:=cLine_p w 4 i
 have p2:=rLine_p w 3 i
 have p3:=read_p w 2 hes her s (by omega)
 have p4:=rread_p w 3 s (by omega)
 rw[hj] at p3 p4
 generalize (lineF i).1=a at*
 generalize (lineF i).2=f at*
 obtain ⟨jo,jr,jb,jp,jt,jc,jk⟩:=j
 unfold insV at p1 p2 p3 p4 ⊢
 have hl2:¬ ((1000:Int)<s.length):=by omega
 repeat' (first|(simp (disch:=first|omega|assumption|exact bd (by with_unfolding_all rfl)|exact Or.inl rfl|exact Or.inl trivial|exact okL_map _ (fun _=>rfl) _|(simp only[VVlen]<;>omega)|fail) only[VV0,VV1,VV2,VV3,VV4,VV5,VV6,VV7,VV8,VV9,mkFnV,vargs,slotsL,opdsA,Nat.reduceEqDiff,Nat.reduceLT,Nat.reduceAdd,Nat.reduceBEq,Int.reduceAdd,Int.reduceSub,Int.reduceLT,Int.reduceLE,Int.reduceEq,Int.reduceNeg,↓reduceIte,reduceCtorEq,scL,scD,expand,List.replicate,c3,hsz])|apply gC_drawW|((first|apply gI_dec|apply gG_dec|apply gPG_dec|apply gI_var|apply gG_var|apply gPG_var)<;>intro _))
 all_goals try (exfalso;omega)
 refine callV_flat (by rw[hC];exact p1.flat rfl rfl) ?_
 repeat' (first|(simp (disch:=first|omega|assumption|exact bd (by with_unfolding_all rfl)|exact Or.inl rfl|exact Or.inl trivial|exact okL_map _ (fun _=>rfl) _|(simp only[VVlen]<;>omega)|fail) only[VV0,VV1,VV2,VV3,VV4,VV5,VV6,VV7,VV8,VV9,mkFnV,vargs,slotsL,opdsA,Nat.reduceEqDiff,Nat.reduceLT,Nat.reduceAdd,Nat.reduceBEq,Int.reduceAdd,Int.reduceSub,Int.reduceLT,Int.reduceLE,Int.reduceEq,Int.reduceNeg,↓reduceIte,reduceCtorEq,scL,scD,expand,List.replicate])|apply gC_drawW|((first|apply gI_dec|apply gG_dec|apply gPG_dec|apply gI_var|apply gG_var|apply gPG_var)<;>intro _))
 refine callV_flat (by rw[hC];exact p2.flat rfl rfl) ?_
 repeat' (first|(simp (disch:=first|omega|assumption|exact bd (by with_unfolding_all rfl)|exact Or.inl rfl|exact Or.inl trivial|exact okL_map _ (fun _=>rfl) _|(simp only[VVlen]<;>omega)|fail) only[VV0,VV1,VV2,VV3,VV4,VV5,VV6,VV7,VV8,VV9,mkFnV,vargs,slotsL,opdsA,Nat.reduceEqDiff,Nat.reduceLT,Nat.reduceAdd,Nat.reduceBEq,Int.reduceAdd,Int.reduceSub,Int.reduceLT,Int.reduceLE,Int.reduceEq,Int.reduceNeg,↓reduceIte,reduceCtorEq,scL,scD,expand,List.replicate])|apply gC_drawW|((first|apply gI_dec|apply gG_dec|apply gPG_dec|apply gI_var|apply gG_var|apply gPG_var)<;>intro _))
 refine callV_flat (by rw[hC];exact p3.flat rfl rfl) ?_
 repeat' (first|(simp (disch:=first|omega|assumption|exact bd (by with_unfolding_all rfl)|exact Or.inl rfl|exact Or.inl trivial|exact okL_map _ (fun _=>rfl) _|(simp only[VVlen]<;>omega)|fail) only[VV0,VV1,VV2,VV3,VV4,VV5,VV6,VV7,VV8,VV9,mkFnV,vargs,slotsL,opdsA,Nat.reduceEqDiff,Nat.reduceLT,Nat.reduceAdd,Nat.reduceBEq,Int.reduceAdd,Int.reduceSub,Int.reduceLT,Int.reduceLE,Int.reduceEq,Int.reduceNeg,↓reduceIte,reduceCtorEq,scL,scD,expand,List.replicate])|apply gC_drawW|((first|apply gI_dec|apply gG_dec|apply gPG_dec|apply gI_var|apply gG_var|apply gPG_var)<;>intro _))
 refine callV_flat (by rw[hC];exact p4.flat rfl rfl) ?_
 repeat' (first|(simp (disch:=first|omega|assumption|exact bd (by with_unfolding_all rfl)|exact Or.inl rfl|exact Or.inl trivial|exact okL_map _ (fun _=>rfl) _|(simp only[VVlen]<;>omega)|fail) only[VV0,VV1,VV2,VV3,VV4,VV5,VV6,VV7,VV8,VV9,mkFnV,vargs,slotsL,opdsA,Nat.reduceEqDiff,Nat.reduceLT,Nat.reduceAdd,Nat.reduceBEq,Int.reduceAdd,Int.reduceSub,Int.reduceLT,Int.reduceLE,Int.reduceEq,Int.reduceNeg,↓reduceIte,reduceCtorEq,scL,scD,expand,List.replicate,eqCellV,eqCell,beq_self_eq_true,Bool.and_self,if_true])|apply gC_drawW|((first|apply gI_dec|apply gG_dec|apply gPG_dec|apply gI_var|apply gG_var|apply gPG_var)<;>intro _))
 exact weak_flat rfl h0 rfl
end Go.Proofs.YtbefpfbidgfipaaDoor
namespace Go.Proofs.YtbefpfbidgfipaaDoor
open Go Go.Itp
open Go.ChangeShapes Go.WideShapes Go.ChangeAt Go.RowKit
set_option linter.unusedVariables false
set_option maxRecDepth 100000
set_option maxHeartbeats 4000000
theorem reach_lt:reachBytes≤140737488351232:=by decide
theorem dec_instr {H:Type} {enc:TypeId × Value→H} {W:World} {held:Bool} (cs:List Value) (n:Nat) (y:DataW H × List MemPlace) (hl:cs.length=7) (h:DataW.trod enc Tryd.prog W 0 (fun _=>true) held n 23 cs=some y):∃ i:Ins,cs=insC i:=by
 obtain ⟨m,a0,a1,a2,a3,a4,a5,a6,rfl,⟨y0,h0⟩,⟨y1,h1⟩,⟨y2,h2⟩,⟨y3,h3⟩,⟨y4,h4⟩,⟨y5,h5⟩,y6,h6⟩:=dec_seven Tryd.underlying23 rfl rfl rfl rfl rfl rfl rfl (by kernel_rfl) (by kernel_rfl) (by kernel_rfl) (by kernel_rfl) (by kernel_rfl) (by kernel_rfl) (by kernel_rfl) cs n y hl h
 obtain ⟨x0,k0,_,j0⟩:=DataW.trod_int Tryd.underlying5 h0
 obtain ⟨x1,k1⟩:=dec_bool Tryd.underlying4 _ _ _ h1
 obtain ⟨x2,k2,_,j2⟩:=DataW.trod_int Tryd.underlying5 h2
 obtain ⟨x3,k3,_⟩:=DataW.trod_int Tryd.underlying3 h3
 obtain ⟨x4,k4,_⟩:=DataW.trod_int Tryd.underlying3 h4
 obtain ⟨x5,k5,_⟩:=DataW.trod_int Tryd.underlying3 h5
 obtain ⟨x6,k6,_⟩:=DataW.trod_int Tryd.underlying3 h6
 simp only[List.cons.injEq,and_true] at k0 k2 k3 k4 k5 k6
 have b0:=wf8 j0
 have b2:=wf8 j2
 obtain ⟨u0,rfl⟩:=Int.eq_ofNat_of_zero_le b0.1
 obtain ⟨u2,rfl⟩:=Int.eq_ofNat_of_zero_le b2.1
 exact ⟨⟨u0,x1,u2,x3,x4,x5,x6⟩,by rw[k0,k1,k2,k3,k4,k5,k6];rfl⟩
theorem open_instr {H:Type} {enc:TypeId × Value→H} {W:World} {b:Nat} {held:Bool} {v:Value} {d:DataW H} {ps:List MemPlace} (hv:Value.okWide Tryd.prog W .any b 23 v) (h:DataW.Trod enc Tryd.prog W 0 (fun _=>true) held 23 v d ps):
  ∃ i:Ins,v= .agg (insC i).toArray∧VRep (wOld (oldOf W)) (insV i) v∧ids 0 v= []:=by
 unfold Value.okWide at hv
 rw[Tryd.underlying23] at hv
 obtain ⟨cs,rfl,hcs,_⟩:=hv
 obtain ⟨n,hn⟩:=h
 obtain ⟨l⟩:=cs
 rw[show Tryd.prog.cellsOf 23=7 by kernel_rfl] at hcs
 obtain ⟨i,rfl⟩:=dec_instr l n _ hcs hn
 refine ⟨i,rfl,?_,rfl⟩
 unfold insV
 rw[VRep]
 refine ⟨insC i,rfl,?_⟩
 simp only[VRepL]
 exact ⟨_,_,rfl,.mksc rfl,_,_,rfl,.mksc rfl,_,_,rfl,.mksc rfl,_,_,rfl,.mksc rfl,_,_,rfl,.mksc rfl,_,_,rfl,.mksc rfl,_,_,rfl,.mksc rfl,rfl⟩
def listed:List (String × DataW Unit):= [("math/bits.deBruijn32tab",Rows.laid_math_bits_deBruijn32tab),("math/bits.deBruijn64tab",Rows.laid_math_bits_deBruijn64tab),("internal/strconv.uint64pow10",Rows.laid_internal_strconv_uint64pow10),("strconv.ErrRange",Rows.laid_strconv_ErrRange),("strconv.ErrSyntax",Rows.laid_strconv_ErrSyntax)]
theorem listed_met (os:Os) (args:Array Value):laidMetH Tryd.prog listed ((World.laidAll Tryd.prog os listed).forCall (fun _ _=>0) ⟨#[],args,[]⟩).memory:=by
 rw[MakeChecks.laidMetH_plain _ _ _ (by kernel_rfl)]
 exact laidMet_laidAll _ (by kernel_rfl) (by kernel_rfl)
theorem listed_shaped (os:Os):(World.laidAll Tryd.prog os listed).Shaped Tryd.prog:=World.shaped_of_ZipB (by kernel_rfl) (by kernel_rfl)
theorem stand_ins {l:List TypeId} {t:TypeId} (hall:(l.all fun u=> !Tryd.prog.wantsStandIn u)=true) (h:t ∈ l):Tryd.prog.wantsStandIn t=false:=by
 have:=List.all_eq_true.1 hall t h
 simpa using this
theorem clines_lifted (os:Os) (started:os.Started) (H:Type) (enc:TypeId × Value→H):
  ReturnsInHanded {} Tryd.checked os 3 .any (fun w args=>(Rows.codeLinesSpec.pre enc Tryd.prog Tryd.f3 [] false w args∧laidMetH Tryd.prog listed w)∧sizedMet enc Tryd.prog Tryd.f3 (OpenSpec.ofChange Rows.codeLinesSpec) false w args)
   (Rows.codeLinesSpec.post enc Tryd.prog Tryd.f3 false true false false):=by
 refine returnsInHanded_of_change_and (C:=Tryd.checked) (X:=fun w _=>laidMetH Tryd.prog listed w) (fun _ _ _ hh h=>h.of_heap hh) own started (by kernel_rfl) Tryd.func3
  (ChangeSpec.witness_shaped (enc:=enc) (C:=Tryd.checked) (os:=os) (X:=fun w _=>laidMetH Tryd.prog listed w) false (World.laidAll Tryd.prog os listed) #[.agg #[.int .u8 0,.bool false,.int .u8 0,.int .i64 0,.int .i64 0,.int .i64 0,.int .i64 0],.string .empty] 8 (World.laidAll_os _ _ _) (listed_shaped os) (by kernel_rfl) (by kernel_rfl) (by kernel_rfl) (listed_met os _)) ?_
 intro W base args ds gs before hval0 hW _ hsz0 hL _
 have hval:∀ (j:Nat) t v,Tryd.f3.params[j]? =some t→args[j]? =some v→Value.okWide Tryd.prog W .any base t v:=hval0
 have hW':=hW
 obtain ⟨p,q,hA0,hV,rfl,hfz,hnd⟩:=hW
 have hA:DataW.TrodAll enc Tryd.prog W 0 (fun _=>true) true Tryd.f3.params.toList args.toList ds p:=hA0
 have hsz:(DataW.weightsEach Tryd.prog (Tryd.f3.params.toList++Rows.codeLinesSpec.plain.varTypes Tryd.prog) (ds++gs)).all (· ≤reachBytes)=true:=hsz0
 rw[Tryd.params3] at hA hval hsz
 obtain ⟨v0,vs0,d0,ds0,p0,q0,hargs,rfl,rfl,h0,r0⟩:=trodAll_cons hA
 obtain ⟨v1,vs1,d1,ds1,p1,q1,rfl,rfl,rfl,h1,r1⟩:=trodAll_cons r0
 obtain ⟨rfl,rfl,rfl⟩:=trodAll_nil r1
 obtain rfl:args=#[v0,v1]:=by cases args;simp_all
 have hr:=reach_lt
 obtain ⟨x0,rfl,hv0,hli0⟩:=open_instr (hval 0 23 v0 rfl rfl) h0
 obtain ⟨s1,rfl,hs1⟩:=open_str Tryd.underlying9 (hval 1 9 v1 rfl rfl) h1 (weights_at (j:=1) hsz rfl rfl)
 obtain ⟨x1,rfl⟩:∃ x:List UInt8,s1=⟨x.toArray⟩:=⟨s1.data.toList,by simp⟩
 rw[mk_size] at hs1
 have hLm:laidMet Tryd.prog listed W:=by rw[← MakeChecks.laidMetH_plain _ _ _ (by kernel_rfl)];exact hL
 have htab:Tab W:=laid_tab hLm 2 rfl (g:=3) (t:=129) (e:=107) (k:= .u64) (m:=20) (by kernel_rfl) (by kernel_rfl) Tryd.underlying129 Tryd.underlying107 (by kernel_rfl) (by kernel_rfl) rfl
 have hesy:(errO Tryd.prog W "strconv.ErrSyntax").isSome=true:=laid_errO hLm 4 rfl (g:=1) (t:=65) (by kernel_rfl) (by kernel_rfl) Tryd.underlying65
 have herr:(errO Tryd.prog W "strconv.ErrRange").isSome=true:=laid_errO hLm 3 rfl (g:=2) (t:=65) (by kernel_rfl) (by kernel_rfl) Tryd.underlying65
 obtain ⟨s',hbody⟩:=law_v (old:=oldOf W) (rounds:=many) (fns:=fns) (prims:=PR W) (n:=8) (af:=c3) (xs:= [insV x0,.sc (.string ⟨x1.toArray⟩)]) (xsI:= [.agg (insC x0).toArray,.string ⟨x1.toArray⟩]) (x:= .bool true) (Nat.le_of_ble_eq_true rfl)
  (by simp only[VRepL];exact ⟨_,_,rfl,hv0,_,_,rfl,.mksc rfl,rfl⟩) fun C hC hn=>clines_g W x0 x1 (by omega) hesy herr hC hn
 have hfn:fns 3=some c3:=rfl
 have hrv:ids 0 (.bool true)= []:=rfl
 refine (law_of htab (f:=3) (af:=c3) hfn (xs:= [.agg (insC x0).toArray,.string ⟨x1.toArray⟩]) (by simp only[idsL_cons,hli0];rfl) _ hbody hrv).mono fun e W' ⟨he,hbe⟩=>?_
 exact ⟨_,he,law_post hW' rfl rfl (by kernel_rfl) (by kernel_rfl) Tryd.underlying4 hbe⟩
theorem clines_over:Rows.CodeLinesSaid:=
 OpenClaim.holds_of_wide 3 Tryd.f3 rfl rfl rfl rfl rfl rfl rfl ⟨rfl,rfl,rfl,rfl,rfl⟩ rfl rfl rfl rfl rfl (by kernel_rfl) Tryd.func3 (by kernel_rfl)
  (of_decide_eq_true (by kernel_rfl)) (by unfold Func.isWrapper;first|(rw[if_pos (by decide+kernel)];kernel_rfl)|(rw[if_neg (by decide+kernel)];exact ⟨rfl,rfl⟩))
  (fun os started H enc _=>clines_lifted os started H enc)
theorem clines_holds:Rows.CodeLinesCardSaid:=
 Claim7.holds_tied_plain_at .later [] [.data,.data,.data,.sentinel,.sentinel] true _ true
  clines_over (fun _ h=>by cases h) (by kernel_rfl) (fun _ h=>by cases h) codeLines_row_tie rfl ⟨rfl,rfl⟩ (by kernel_rfl) rfl
  (fun f fn hf hfn=>by
   obtain rfl:f=3:=Option.some.inj ((show Tryd.prog.funcNamed "raddle/raddlelaw33.CodeLines"=some 3 by kernel_rfl).symm.trans hf)|>.symm
   obtain rfl:fn=Tryd.f3:=(Option.some.inj (Tryd.func3.symm.trans hfn)).symm
   exact ⟨by kernel_rfl,fun j t ht=>stand_ins (l:= [23,9]) (by kernel_rfl) (by rw[Tryd.params3] at ht;simpa using Array.mem_of_getElem? ht)⟩)
  (by kernel_rfl)
#print axioms clines_holds
end Go.Proofs.YtbefpfbidgfipaaDoor
