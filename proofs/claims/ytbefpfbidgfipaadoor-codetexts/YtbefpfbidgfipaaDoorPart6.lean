/- What is proved: the law CodeTexts returns true for every input. Conditions: none beyond the card's own.
   Texts: K33q, K33u, K33v, K33w, K33x, K33z, L33a, L33b, L33c, L33d, L33e, L33f, L33g, L33h.
-/
import Derived.Test.YtbefpfbidgfipaaDoorPart5
import Derived.Test.YtbefpfbidgfipaaDoorCards
import Derived.Test.YtbefpfbidgfipaaDoorTie
import Derived.SizedLaws
import Derived.ChangeAt
import Derived.SevenTiedAt
import Derived.Stop.Joined
import Derived.Lay
namespace Go.Proofs.YtbefpfbidgfipaaDoor
open Go Go.Itp
set_option maxRecDepth 100000
set_option maxHeartbeats 4000000
set_option linter.unusedSimpArgs false
set_option linter.unusedVariables false
theorem wordsD_snd {op:Nat} (h:op<10):dload wordsD (op*2+1) none=some (strV (partsI op)):=by
 rcases (by omega:op=0∨op=1∨op=2∨op=3∨op=4∨op=5∨op=6∨op=7∨op=8∨op=9) with rfl|rfl|rfl|rfl|rfl|rfl|rfl|rfl|rfl|rfl<;>rfl
attribute [local irreducible] wordsD
theorem cutB_len (c:UInt8) (l:List UInt8):(cutB c l).1.length≤l.length∧(cutB c l).2.1.length≤l.length:=by
 unfold cutB
 split
 ·constructor<;>simp
  omega
 ·exact ⟨Nat.le_refl _,Nat.zero_le _⟩
theorem cutB_app {c:UInt8} {a:List UInt8} (r:List UInt8) (h:c ∉ a):cutB c (a++c::r)=(a,r,true):=by
 have hi:=idxB_app r h
 unfold cutB
 rw[if_pos (by omega),hi]
 simp
theorem cutB_free {c:UInt8} {a:List UInt8} (h:c ∉ a):cutB c a=(a,[],false):=by
 have hi:=idxB_free h
 unfold cutB
 rw[if_neg (by omega)]
theorem cutB_head {i0:Ins} (h:InsP i0):(cutB 32 (textI i0)).1=nameI i0.op∧(cutB 32 (textI i0)).2.1=restT i0 0:=by
 rw[textI_eq h,cutB_app _ (nameI_no _).1]
 exact ⟨rfl,rfl⟩
theorem cutB_rest (i0:Ins) (k:Nat) (h:k<(partsI i0.op).length):(cutB 32 (restT i0 k)).1=partT i0 (partsI i0.op)[k]! ∧(cutB 32 (restT i0 k)).2.1=restT i0 (k+1):=by
 by_cases hk:k+1=(partsI i0.op).length
 ·obtain ⟨h1,h2⟩:=restT_last i0 k hk
  rw[h1,h2,cutB_free (partT_no _ _).1]
  exact ⟨rfl,rfl⟩
 ·rw[restT_more i0 k (by omega),cutB_app _ (partT_no _ _).1]
  exact ⟨rfl,rfl⟩
def resI:Option Ins→V
 |some i=> .tup [insV i,.sc (.int .i64 0)]
 |none=> .tup [insV ins0,.sc (.int .i64 12)]
section
variable (w:World) (n:Nat)
theorem read_none {C:Ctx} (hC:C.E=EN w (n+5)) (h0:C.w0.nx=0) (s:List UInt8) (hs:s.length≤1000000) (hix:idxN (cutB 32 s).1 10<1):gC C c10.code [] (vargs 0 [strV s]) ⟨[],0,0⟩ (RetV C c10.res (resI none) ⟨[],0,0⟩):=by
 have hcut:=cut_p w n s 32 (by omega)
 have hio:∀ st:VSt,aget st.own 1=some (.box 9 1 [strV (cutB 32 s).1])→1 ≠ st.next→aget st.own 2=some (.row 59 2 false false wordsD)→VSpecO (EN w (n+5)) 27 st [.ref 2 0 10 10,.fn 29 [] [.ptr 1 0]] (.sc (.int .i64 (idxN (cutB 32 s).1 10))):=fun st hb hn ho=>indexFunc_o w (n+3) st 1 2 1 (cutB 32 s).1 hb hn ho
 simp (disch:=first|omega|assumption|exact bd (by with_unfolding_all rfl)|exact Or.inl rfl|(simp only[VVlen]<;>omega)|fail) only[O1,WA,slotsL,opdsA,Nat.reduceEqDiff,Nat.reduceLT,Nat.reduceAdd,Nat.reduceBEq,Int.reduceAdd,Int.reduceSub,Int.reduceLT,Int.reduceLE,Int.reduceEq,Int.reduceNeg,↓reduceIte,reduceCtorEq,List.replicate,c10]
 refine callV_flat (by rw[hC];exact hcut.flat rfl rfl) ?_
 simp (disch:=first|omega|assumption|exact bd (by with_unfolding_all rfl)|exact Or.inl rfl|(simp only[VVlen]<;>omega)|fail) only[O1,WA,slotsL,opdsA,Nat.reduceEqDiff,Nat.reduceLT,Nat.reduceAdd,Nat.reduceBEq,Int.reduceAdd,Int.reduceSub,Int.reduceLT,Int.reduceLE,Int.reduceEq,Int.reduceNeg,↓reduceIte,reduceCtorEq,List.replicate]
 refine callV_of (by rw[hC];exact codewords_p w (n+4)) rfl rfl rfl ?_
 simp (disch:=first|omega|assumption|exact bd (by with_unfolding_all rfl)|exact Or.inl rfl|(simp only[VVlen]<;>omega)|fail) only[O1,WA,slotsL,opdsA,Nat.reduceEqDiff,Nat.reduceLT,Nat.reduceAdd,Nat.reduceBEq,Int.reduceAdd,Int.reduceSub,Int.reduceLT,Int.reduceLE,Int.reduceEq,Int.reduceNeg,↓reduceIte,reduceCtorEq,List.replicate,vsh,vshL,shH,shO,fzSL,fzS]
 refine callV_flat (by rw[hC];exact hio _ rfl (show (1:Nat) ≠ 3 from by decide) rfl) ?_
 simp (disch:=first|omega|assumption|exact bd (by with_unfolding_all rfl)|exact Or.inl rfl|(simp only[VVlen]<;>omega)|fail) only[O1,WA,slotsL,opdsA,Nat.reduceEqDiff,Nat.reduceLT,Nat.reduceAdd,Nat.reduceBEq,Int.reduceAdd,Int.reduceSub,Int.reduceLT,Int.reduceLE,Int.reduceEq,Int.reduceNeg,↓reduceIte,reduceCtorEq,List.replicate]
 all_goals try (exfalso;omega)
 exact weak_flat rfl h0 rfl
abbrev readH (op:Nat) (k:Nat) (i:Ins):VHp:= [(2,itO ⟨(partsI op).toArray⟩ k),(1,insB' i),(0,insB' ins0)]
abbrev readQ (s:List UInt8) (op k:Nat) (rest:List UInt8) (i:Ins):Prop:=∀ i0,InsP i0→s=textI i0→i0.op=op∧rest=restT i0 k∧i=partI i0 k
theorem read_loop {C:Ctx} (hC:C.E=EN w (n+5)) (h0:C.w0.nx=0) (hes:(errO Tryd.prog w "strconv.ErrSyntax").isSome=true) (her:(errO Tryd.prog w "strconv.ErrRange").isSome=true) (s:List UInt8) (hs:s.length≤1000000) (op:Nat) (hop:0<op) (hop2:op<10) {K:List KF} {P:VPost}
  (hgo:∀ i:Ins,(∀ i0,InsP i0→s=textI i0→i=i0)→∀ rest,gK C K (.exit 0) [(0,strV s),(2,.ptr 0 0),(5,strV rest),(8,.ptr 1 0),(32,.ptr 2 0),(33,.tup [.sc (.bool false)]),(34,.sc (.bool false))] ⟨readH op (partsI op).length i,3,0⟩ P)
  {fr0:VFr} {st0:VSt} {rest0:List UInt8} {i1:Ins} (hr0:rest0.length≤s.length) (hq0:readQ s op 0 rest0 i1) (hst:Weak C fr0 st0 [(0,strV s),(2,.ptr 0 0),(5,strV rest0),(8,.ptr 1 0),(32,.ptr 2 0)] ⟨readH op 0 i1,3,0⟩):
  gL C [0,2,5,8,32] c10l0 K fr0 st0 P:=by
 have hrn:C.E.rounds=many:=by rw[hC,callP_rounds]
 have hpl:=partsI_len hop2
 refine g_while (fun m fr st=>∃ (p r rest:List UInt8) (i:Ins),m=r.length∧partsI op=p++r∧rest.length≤s.length∧readQ s op p.length rest i∧fr= [(0,strV s),(2,.ptr 0 0),(5,strV rest),(8,.ptr 1 0),(32,.ptr 2 0)]∧st=⟨readH op p.length i,3,0⟩) (partsI op).length ?_ ⟨_,_,hst,[],_,_,_,rfl,rfl,hr0,hq0,rfl,rfl⟩ ?_
 ·rw[hrn];unfold many;omega
 rintro m fr st ⟨p,r,rest,i,rfl,hs1,hrl,hq,rfl,rfl⟩
 have hsl:(partsI op).length=p.length+r.length:=by rw[hs1];simp
 cases r with
 |nil=>
  rw[List.append_nil] at hs1
  have hnx:=next_end (partsI op) (by omega) (readH op p.length i) 3 2 (by show some (itO ⟨(partsI op).toArray⟩ p.length)=_;rw[hs1])
  have hgo:=hgo i (fun i0 h1 h2=>by
   obtain ⟨a,_,b⟩:=hq i0 h1 h2
   rw[b,← hs1,← a]
   exact partI_full h1) rest
  rw[show (partsI op).length=p.length from by rw[hs1]] at hgo
  simp (disch:=first|omega|assumption|exact bd (by with_unfolding_all rfl)|exact Or.inl rfl|(simp only[VVlen]<;>omega)|fail) only[O1,WA,slotsL,opdsA,Nat.reduceEqDiff,Nat.reduceLT,Nat.reduceAdd,Nat.reduceBEq,Int.reduceAdd,Int.reduceSub,Int.reduceLT,Int.reduceLE,Int.reduceEq,Int.reduceNeg,↓reduceIte,reduceCtorEq,List.replicate,c10l0,pv_nextS,wv_nextS,hnx]
  exact hgo
 |cons b r3=>
  have hmem:b ∈ partsI op:=by rw[hs1];simp
  have hb:=partsI_mem hop2 b hmem
  have hb128:b.toNat<128:=by rcases hb with rfl|rfl|rfl|rfl|rfl<;>decide
  have hnx:=next_small (partsI op) p r3 b hs1 hb128 (by omega) (readH op p.length i) 3 2 rfl
  have hat:(partsI op)[p.length]! =b:=by rw[hs1];exact at_mid p r3 b
  have hlt:p.length<(partsI op).length:=by rw[hsl];simp
  have hcut:=cut_p w n rest 32 (by omega)
  have hcl:=cutB_len 32 rest
  have hqc:∀ i0,InsP i0→s=textI i0→(cutB 32 rest).1=partT i0 b∧(cutB 32 rest).2.1=restT i0 (p.length+1):=fun i0 h1 h2=>by
   obtain ⟨a,c,_⟩:=hq i0 h1 h2
   rw[c]
   have:=cutB_rest i0 p.length (by rw[a];exact hlt)
   rw[a,hat] at this
   exact this
  generalize hcu:(cutB 32 rest).1=wd at*
  generalize hcr:(cutB 32 rest).2.1=rest' at*
  generalize hcb:(cutB 32 rest).2.2=fd at*
  have hdone:∀ (i':Ins) (fr:VFr) (st:VSt),(∀ i0,InsP i0→s=textI i0→i'=setP i0 i b)→Weak C fr st [(0,strV s),(2,.ptr 0 0),(5,strV rest'),(8,.ptr 1 0),(32,.ptr 2 0)] ⟨readH op (p.length+1) i',3,0⟩→
    ∃ m' fr' st',m'<(b::r3).length∧Weak C fr st fr' st'∧∃ (p r rest:List UInt8) (i:Ins),m'=r.length∧partsI op=p++r∧rest.length≤s.length∧readQ s op p.length rest i∧fr'= [(0,strV s),(2,.ptr 0 0),(5,strV rest),(8,.ptr 1 0),(32,.ptr 2 0)]∧st'=⟨readH op p.length i,3,0⟩:=fun i' fr st hi hw=>by
   have hpl1:(p++ [b]).length=p.length+1:=by simp
   refine ⟨r3.length,_,_,by simp,hw,p++ [b],r3,rest',i',rfl,by rw[hs1];simp,by omega,fun i0 h1 h2=>?_,rfl,by rw[hpl1]⟩
   obtain ⟨a,c,d⟩:=hq i0 h1 h2
   rw[hpl1]
   refine ⟨a,(hqc i0 h1 h2).2,?_⟩
   rw[hi i0 h1 h2,d,partI_succ i0 p.length (by rw[a];exact hlt),a,hat]
  have d100:(((100:UInt8).toNat:Nat):Int)=100:=rfl
  have d110:(((110:UInt8).toNat:Nat):Int)=110:=rfl
  have d111:(((111:UInt8).toNat:Nat):Int)=111:=rfl
  have d99:(((99:UInt8).toNat:Nat):Int)=99:=rfl
  have d114:(((114:UInt8).toNat:Nat):Int)=114:=rfl
  have h43:(⟨#[43]⟩:ByteArray)=⟨([43]:List UInt8).toArray⟩:=rfl
  have hwl:wd.length≤1000000:=by omega
  rcases hb with rfl|rfl|rfl|rfl|rfl
  ·simp (disch:=first|omega|assumption|exact bd (by with_unfolding_all rfl)|exact Or.inl rfl|(simp only[VVlen]<;>omega)|fail) only[O1,WA,slotsL,opdsA,Nat.reduceEqDiff,Nat.reduceLT,Nat.reduceAdd,Nat.reduceBEq,Int.reduceAdd,Int.reduceSub,Int.reduceLT,Int.reduceLE,Int.reduceEq,Int.reduceNeg,↓reduceIte,reduceCtorEq,List.replicate,c10l0,pv_nextS,wv_nextS,hnx,d100,d110,d111,d99,d114]
   refine callV_flat (by rw[hC];exact hcut.flat rfl rfl) ?_
   simp (disch:=first|omega|assumption|exact bd (by with_unfolding_all rfl)|exact Or.inl rfl|(simp only[VVlen]<;>omega)|fail) only[O1,WA,slotsL,opdsA,Nat.reduceEqDiff,Nat.reduceLT,Nat.reduceAdd,Nat.reduceBEq,Int.reduceAdd,Int.reduceSub,Int.reduceLT,Int.reduceLE,Int.reduceEq,Int.reduceNeg,↓reduceIte,reduceCtorEq,List.replicate,d100,d110,d111,d99,d114,h43,mk_inj]
   refine hdone ⟨i.op,decide (wd= [43]),i.bed,i.pos,i.to,i.car,i.rack⟩ _ _ (fun i0 h1 h2=>?_) (weak_to [(2,2),(1,1),(0,0)] 3 h0 rfl rfl rfl rfl)
   rw[(hqc i0 h1 h2).1]
   unfold setP partT
   simp only[if_true]
   cases i0.right<;>rfl
  ·obtain ⟨hb,hz,hk,hble,hprop⟩:=hook_ex w (n+1) wd hwl hes her
   simp (disch:=first|omega|assumption|exact bd (by with_unfolding_all rfl)|exact Or.inl rfl|(simp only[VVlen]<;>omega)|fail) only[O1,WA,slotsL,opdsA,Nat.reduceEqDiff,Nat.reduceLT,Nat.reduceAdd,Nat.reduceBEq,Int.reduceAdd,Int.reduceSub,Int.reduceLT,Int.reduceLE,Int.reduceEq,Int.reduceNeg,↓reduceIte,reduceCtorEq,List.replicate,c10l0,pv_nextS,wv_nextS,hnx,d100,d110,d111,d99,d114]
   refine callV_flat (by rw[hC];exact hcut.flat rfl rfl) ?_
   simp (disch:=first|omega|assumption|exact bd (by with_unfolding_all rfl)|exact Or.inl rfl|(simp only[VVlen]<;>omega)|fail) only[O1,WA,slotsL,opdsA,Nat.reduceEqDiff,Nat.reduceLT,Nat.reduceAdd,Nat.reduceBEq,Int.reduceAdd,Int.reduceSub,Int.reduceLT,Int.reduceLE,Int.reduceEq,Int.reduceNeg,↓reduceIte,reduceCtorEq,List.replicate,d100,d110,d111,d99,d114,h43,mk_inj]
   refine callV_flat (by rw[hC];exact hk.flat rfl rfl) ?_
   simp (disch:=first|omega|assumption|exact bd (by with_unfolding_all rfl)|exact Or.inl rfl|(simp only[VVlen]<;>omega)|fail) only[O1,WA,slotsL,opdsA,Nat.reduceEqDiff,Nat.reduceLT,Nat.reduceAdd,Nat.reduceBEq,Int.reduceAdd,Int.reduceSub,Int.reduceLT,Int.reduceLE,Int.reduceEq,Int.reduceNeg,↓reduceIte,reduceCtorEq,List.replicate]
   refine hdone ⟨i.op,i.right,hb,hz,i.to,i.car,i.rack⟩ _ _ (fun i0 h1 h2=>?_) (weak_to [(2,2),(1,1),(0,0)] 3 h0 rfl rfl rfl rfl)
   have hbd:=h1.bounds
   unfold ndOK at hbd
   obtain ⟨e1,e2⟩:=hprop i0.bed i0.pos hbd.1 (by omega) (by omega) (hqc i0 h1 h2).1
   rw[e1,e2]
   rfl
  ·obtain ⟨hb,hz,hk,hble,hprop⟩:=hook_ex w (n+1) wd hwl hes her
   simp (disch:=first|omega|assumption|exact bd (by with_unfolding_all rfl)|exact Or.inl rfl|(simp only[VVlen]<;>omega)|fail) only[O1,WA,slotsL,opdsA,Nat.reduceEqDiff,Nat.reduceLT,Nat.reduceAdd,Nat.reduceBEq,Int.reduceAdd,Int.reduceSub,Int.reduceLT,Int.reduceLE,Int.reduceEq,Int.reduceNeg,↓reduceIte,reduceCtorEq,List.replicate,c10l0,pv_nextS,wv_nextS,hnx,d100,d110,d111,d99,d114]
   refine callV_flat (by rw[hC];exact hcut.flat rfl rfl) ?_
   simp (disch:=first|omega|assumption|exact bd (by with_unfolding_all rfl)|exact Or.inl rfl|(simp only[VVlen]<;>omega)|fail) only[O1,WA,slotsL,opdsA,Nat.reduceEqDiff,Nat.reduceLT,Nat.reduceAdd,Nat.reduceBEq,Int.reduceAdd,Int.reduceSub,Int.reduceLT,Int.reduceLE,Int.reduceEq,Int.reduceNeg,↓reduceIte,reduceCtorEq,List.replicate,d100,d110,d111,d99,d114,h43,mk_inj]
   refine callV_flat (by rw[hC];exact hk.flat rfl rfl) ?_
   simp (disch:=first|omega|assumption|exact bd (by with_unfolding_all rfl)|exact Or.inl rfl|(simp only[VVlen]<;>omega)|fail) only[O1,WA,slotsL,opdsA,Nat.reduceEqDiff,Nat.reduceLT,Nat.reduceAdd,Nat.reduceBEq,Int.reduceAdd,Int.reduceSub,Int.reduceLT,Int.reduceLE,Int.reduceEq,Int.reduceNeg,↓reduceIte,reduceCtorEq,List.replicate]
   refine hdone ⟨i.op,i.right,i.bed,i.pos,hz,i.car,i.rack⟩ _ _ (fun i0 h1 h2=>?_) (weak_to [(2,2),(1,1),(0,0)] 3 h0 rfl rfl rfl rfl)
   have hbd:=h1.bounds
   unfold ndOK at hbd
   obtain ⟨e1,e2⟩:=hprop (1 - i0.bed) i0.to (by omega) (by omega) (by omega) (hqc i0 h1 h2).1
   rw[e2]
   rfl
  ·obtain ⟨hz,hprop,hk⟩:=atoi_ex w (n+4) wd hwl hes her
   simp (disch:=first|omega|assumption|exact bd (by with_unfolding_all rfl)|exact Or.inl rfl|(simp only[VVlen]<;>omega)|fail) only[O1,WA,slotsL,opdsA,Nat.reduceEqDiff,Nat.reduceLT,Nat.reduceAdd,Nat.reduceBEq,Int.reduceAdd,Int.reduceSub,Int.reduceLT,Int.reduceLE,Int.reduceEq,Int.reduceNeg,↓reduceIte,reduceCtorEq,List.replicate,c10l0,pv_nextS,wv_nextS,hnx,d100,d110,d111,d99,d114]
   refine callV_flat (by rw[hC];exact hcut.flat rfl rfl) ?_
   simp (disch:=first|omega|assumption|exact bd (by with_unfolding_all rfl)|exact Or.inl rfl|(simp only[VVlen]<;>omega)|fail) only[O1,WA,slotsL,opdsA,Nat.reduceEqDiff,Nat.reduceLT,Nat.reduceAdd,Nat.reduceBEq,Int.reduceAdd,Int.reduceSub,Int.reduceLT,Int.reduceLE,Int.reduceEq,Int.reduceNeg,↓reduceIte,reduceCtorEq,List.replicate,d100,d110,d111,d99,d114,h43,mk_inj]
   refine atoi_call w (n+4) hC hk ?_ (fun o cs ho=>?_)
   all_goals
    try subst ho
    repeat' (first|(simp (disch:=first|omega|assumption|exact bd (by with_unfolding_all rfl)|exact Or.inl rfl|(simp only[VVlen]<;>omega)|fail) only[O1,WA,slotsL,opdsA,Nat.reduceEqDiff,Nat.reduceLT,Nat.reduceAdd,Nat.reduceBEq,Int.reduceAdd,Int.reduceSub,Int.reduceLT,Int.reduceLE,Int.reduceEq,Int.reduceNeg,↓reduceIte,reduceCtorEq,List.replicate])|apply gC_drawW|((first|apply gI_dec|apply gG_dec|apply gPG_dec|apply gI_var|apply gG_var|apply gPG_var)<;>intro _))
    refine hdone ⟨i.op,i.right,i.bed,i.pos,i.to,hz,i.rack⟩ _ _ (fun i0 h1 h2=>?_) (weak_to [(2,2),(1,1),(0,0)] 3 h0 rfl rfl rfl rfl)
    have hbd:=h1.bounds
    have e1:=hprop i0.car (by rw[(hqc i0 h1 h2).1];exact numA_itoa (by omega) (by omega))
    rw[e1]
    rfl
  ·obtain ⟨hz,hprop,hk⟩:=atoi_ex w (n+4) wd hwl hes her
   simp (disch:=first|omega|assumption|exact bd (by with_unfolding_all rfl)|exact Or.inl rfl|(simp only[VVlen]<;>omega)|fail) only[O1,WA,slotsL,opdsA,Nat.reduceEqDiff,Nat.reduceLT,Nat.reduceAdd,Nat.reduceBEq,Int.reduceAdd,Int.reduceSub,Int.reduceLT,Int.reduceLE,Int.reduceEq,Int.reduceNeg,↓reduceIte,reduceCtorEq,List.replicate,c10l0,pv_nextS,wv_nextS,hnx,d100,d110,d111,d99,d114]
   refine callV_flat (by rw[hC];exact hcut.flat rfl rfl) ?_
   simp (disch:=first|omega|assumption|exact bd (by with_unfolding_all rfl)|exact Or.inl rfl|(simp only[VVlen]<;>omega)|fail) only[O1,WA,slotsL,opdsA,Nat.reduceEqDiff,Nat.reduceLT,Nat.reduceAdd,Nat.reduceBEq,Int.reduceAdd,Int.reduceSub,Int.reduceLT,Int.reduceLE,Int.reduceEq,Int.reduceNeg,↓reduceIte,reduceCtorEq,List.replicate,d100,d110,d111,d99,d114,h43,mk_inj]
   refine atoi_call w (n+4) hC hk ?_ (fun o cs ho=>?_)
   all_goals
    try subst ho
    repeat' (first|(simp (disch:=first|omega|assumption|exact bd (by with_unfolding_all rfl)|exact Or.inl rfl|(simp only[VVlen]<;>omega)|fail) only[O1,WA,slotsL,opdsA,Nat.reduceEqDiff,Nat.reduceLT,Nat.reduceAdd,Nat.reduceBEq,Int.reduceAdd,Int.reduceSub,Int.reduceLT,Int.reduceLE,Int.reduceEq,Int.reduceNeg,↓reduceIte,reduceCtorEq,List.replicate])|apply gC_drawW|((first|apply gI_dec|apply gG_dec|apply gPG_dec|apply gI_var|apply gG_var|apply gPG_var)<;>intro _))
    refine hdone ⟨i.op,i.right,i.bed,i.pos,i.to,i.car,hz⟩ _ _ (fun i0 h1 h2=>?_) (weak_to [(2,2),(1,1),(0,0)] 3 h0 rfl rfl rfl rfl)
    have hbd:=h1.bounds
    have e1:=hprop i0.rack (by rw[(hqc i0 h1 h2).1];exact numA_itoa (by omega) (by omega))
    rw[e1]
    rfl
theorem readO_none {s:List UInt8} (h:∀ i,InsP i→textI i ≠ s):readO s=none:=(accI_eq (r:=none) h).symm
theorem idxN_of {s:List UInt8} {i0:Ins} (h:InsP i0) (hs:s=textI i0):idxN (cutB 32 s).1 10=i0.op:=by
 rw[hs,(cutB_head h).1]
 exact idxN_name h.op_lt.1 h.op_lt.2
theorem read_p (hes:(errO Tryd.prog w "strconv.ErrSyntax").isSome=true) (her:(errO Tryd.prog w "strconv.ErrRange").isSome=true) (s:List UInt8) (hs:s.length≤1000000):VSpec (EN w (n+6)) 10 [strV s] (resI (readO s)) ⟨[],0,0⟩:=by
 refine vspec_flat rfl rfl (fun _ _=>rfl) (Nat.le_of_ble_eq_true rfl) (oldVals w) (by cases readO s<;>rfl) fun C hC h0=>?_
 by_cases hix1:idxN (cutB 32 s).1 10<1
 ·rw[readO_none fun i0 h1 h2=>by
   have:=idxN_of h1 h2.symm
   have:=h1.op_lt
   omega]
  exact read_none w n hC h0 s hs hix1
 obtain ⟨op,hix⟩:∃ op:Nat,idxN (cutB 32 s).1 10=op:=⟨(idxN (cutB 32 s).1 10).toNat,by omega⟩
 have hrg:=idxN_range (cutB 32 s).1 10
 have hop:0<op:=by omega
 have hop2:op<10:=by omega
 have hcut:=cut_p w n s 32 (by omega)
 have hio:∀ st:VSt,aget st.own 1=some (.box 9 1 [strV (cutB 32 s).1])→1 ≠ st.next→aget st.own 2=some (.row 59 2 false false wordsD)→VSpecO (EN w (n+5)) 27 st [.ref 2 0 10 10,.fn 29 [] [.ptr 1 0]] (.sc (.int .i64 op)):=fun st hb hn ho=>by
  rw[← hix];exact indexFunc_o w (n+3) st 1 2 1 (cutB 32 s).1 hb hn ho
 have hrs:=fun nx=>rangeSV_str nx ⟨(partsI op).toArray⟩ (by have:=partsI_len hop2;rw[mk_size];omega)
 have hwu:IntKind.u8.wrap (op:Int)=op:=wrap_u8 _ (by omega) (by omega)
 have hwo:=wordsD_snd hop2
 have hcl:=cutB_len 32 s
 simp (disch:=first|omega|assumption|exact bd (by with_unfolding_all rfl)|exact Or.inl rfl|(simp only[VVlen]<;>omega)|fail) only[O1,WA,slotsL,opdsA,Nat.reduceEqDiff,Nat.reduceLT,Nat.reduceAdd,Nat.reduceBEq,Int.reduceAdd,Int.reduceSub,Int.reduceLT,Int.reduceLE,Int.reduceEq,Int.reduceNeg,↓reduceIte,reduceCtorEq,List.replicate,c10]
 refine callV_flat (by rw[hC];exact hcut.flat rfl rfl) ?_
 simp (disch:=first|omega|assumption|exact bd (by with_unfolding_all rfl)|exact Or.inl rfl|(simp only[VVlen]<;>omega)|fail) only[O1,WA,slotsL,opdsA,Nat.reduceEqDiff,Nat.reduceLT,Nat.reduceAdd,Nat.reduceBEq,Int.reduceAdd,Int.reduceSub,Int.reduceLT,Int.reduceLE,Int.reduceEq,Int.reduceNeg,↓reduceIte,reduceCtorEq,List.replicate]
 refine callV_of (by rw[hC];exact codewords_p w (n+4)) rfl rfl rfl ?_
 simp (disch:=first|omega|assumption|exact bd (by with_unfolding_all rfl)|exact Or.inl rfl|(simp only[VVlen]<;>omega)|fail) only[O1,WA,slotsL,opdsA,Nat.reduceEqDiff,Nat.reduceLT,Nat.reduceAdd,Nat.reduceBEq,Int.reduceAdd,Int.reduceSub,Int.reduceLT,Int.reduceLE,Int.reduceEq,Int.reduceNeg,↓reduceIte,reduceCtorEq,List.replicate,vsh,vshL,shH,shO,fzSL,fzS]
 refine callV_flat (by rw[hC];exact hio _ rfl (show (1:Nat) ≠ 3 from by decide) rfl) ?_
 simp (disch:=first|omega|assumption|exact bd (by with_unfolding_all rfl)|exact Or.inl rfl|(simp only[VVlen]<;>omega)|fail) only[O1,WA,slotsL,opdsA,Nat.reduceEqDiff,Nat.reduceLT,Nat.reduceAdd,Nat.reduceBEq,Int.reduceAdd,Int.reduceSub,Int.reduceLT,Int.reduceLE,Int.reduceEq,Int.reduceNeg,↓reduceIte,reduceCtorEq,List.replicate,hwu]
 all_goals try (exfalso;omega)
 refine callV_of (by rw[hC];exact codewords_p w (n+4)) rfl rfl rfl ?_
 simp (disch:=first|omega|assumption|exact bd (by with_unfolding_all rfl)|exact Or.inl rfl|(simp only[VVlen]<;>omega)|fail) only[O1,WA,slotsL,opdsA,Nat.reduceEqDiff,Nat.reduceLT,Nat.reduceAdd,Nat.reduceBEq,Int.reduceAdd,Int.reduceSub,Int.reduceLT,Int.reduceLE,Int.reduceEq,Int.reduceNeg,↓reduceIte,reduceCtorEq,List.replicate,vsh,vshL,shH,shO,fzSL,fzS,hwo,pv_rangeS,hrs]
 refine read_loop w n hC h0 hes her s hs op hop hop2 (fun i hi rest=>?_) (i1:=⟨op,false,0,0,0,0,0⟩) hcl.2 (fun i0 h1 h2=>?_) (weak_to [(5,2),(3,1),(0,0)] 3 h0 rfl rfl rfl rfl)
 ·have hbi:=binstr_p w (n+3) i
  by_cases hv:insOK i=true
  ·have hl:=line_p w (n+2) i (insOK_iff.1 hv)
   rw[if_pos hv] at hbi
   unfold insV at hbi hl
   by_cases ht:textI i=s
   ·have hr:readO s=some i:=by rw[← ht];exact readO_text (insOK_iff.1 hv)
    rw[hr]
    simp (disch:=first|omega|assumption|exact bd (by with_unfolding_all rfl)|exact Or.inl rfl|(simp only[VVlen]<;>omega)|fail) only[O1,WA,slotsL,opdsA,Nat.reduceEqDiff,Nat.reduceLT,Nat.reduceAdd,Nat.reduceBEq,Int.reduceAdd,Int.reduceSub,Int.reduceLT,Int.reduceLE,Int.reduceEq,Int.reduceNeg,↓reduceIte,reduceCtorEq,List.replicate]
    refine callV_flat (by rw[hC];exact hbi.flat rfl rfl) ?_
    simp (disch:=first|omega|assumption|exact bd (by with_unfolding_all rfl)|exact Or.inl rfl|(simp only[VVlen]<;>omega)|fail) only[O1,WA,slotsL,opdsA,Nat.reduceEqDiff,Nat.reduceLT,Nat.reduceAdd,Nat.reduceBEq,Int.reduceAdd,Int.reduceSub,Int.reduceLT,Int.reduceLE,Int.reduceEq,Int.reduceNeg,↓reduceIte,reduceCtorEq,List.replicate]
    refine callV_flat (by rw[hC];exact hl.flat rfl rfl) ?_
    simp (disch:=first|omega|assumption|exact bd (by with_unfolding_all rfl)|exact Or.inl rfl|(simp only[VVlen]<;>omega)|fail) only[O1,WA,slotsL,opdsA,Nat.reduceEqDiff,Nat.reduceLT,Nat.reduceAdd,Nat.reduceBEq,Int.reduceAdd,Int.reduceSub,Int.reduceLT,Int.reduceLE,Int.reduceEq,Int.reduceNeg,↓reduceIte,reduceCtorEq,List.replicate,ht]
    exact weak_flat rfl h0 rfl
   ·rw[readO_none fun i0 h1 h2=>ht (by rw[hi i0 h1 h2.symm];exact h2)]
    simp (disch:=first|omega|assumption|exact bd (by with_unfolding_all rfl)|exact Or.inl rfl|(simp only[VVlen]<;>omega)|fail) only[O1,WA,slotsL,opdsA,Nat.reduceEqDiff,Nat.reduceLT,Nat.reduceAdd,Nat.reduceBEq,Int.reduceAdd,Int.reduceSub,Int.reduceLT,Int.reduceLE,Int.reduceEq,Int.reduceNeg,↓reduceIte,reduceCtorEq,List.replicate]
    refine callV_flat (by rw[hC];exact hbi.flat rfl rfl) ?_
    simp (disch:=first|omega|assumption|exact bd (by with_unfolding_all rfl)|exact Or.inl rfl|(simp only[VVlen]<;>omega)|fail) only[O1,WA,slotsL,opdsA,Nat.reduceEqDiff,Nat.reduceLT,Nat.reduceAdd,Nat.reduceBEq,Int.reduceAdd,Int.reduceSub,Int.reduceLT,Int.reduceLE,Int.reduceEq,Int.reduceNeg,↓reduceIte,reduceCtorEq,List.replicate]
    refine callV_flat (by rw[hC];exact hl.flat rfl rfl) ?_
    simp (disch:=first|omega|assumption|exact bd (by with_unfolding_all rfl)|exact Or.inl rfl|(simp only[VVlen]<;>omega)|fail) only[O1,WA,slotsL,opdsA,Nat.reduceEqDiff,Nat.reduceLT,Nat.reduceAdd,Nat.reduceBEq,Int.reduceAdd,Int.reduceSub,Int.reduceLT,Int.reduceLE,Int.reduceEq,Int.reduceNeg,↓reduceIte,reduceCtorEq,List.replicate,ht,mk_inj]
    exact weak_flat rfl h0 rfl
  ·rw[readO_none fun i0 h1 h2=>hv (by rw[hi i0 h1 h2.symm];exact insOK_iff.2 h1)]
   rw[if_neg hv] at hbi
   unfold insV at hbi
   simp (disch:=first|omega|assumption|exact bd (by with_unfolding_all rfl)|exact Or.inl rfl|(simp only[VVlen]<;>omega)|fail) only[O1,WA,slotsL,opdsA,Nat.reduceEqDiff,Nat.reduceLT,Nat.reduceAdd,Nat.reduceBEq,Int.reduceAdd,Int.reduceSub,Int.reduceLT,Int.reduceLE,Int.reduceEq,Int.reduceNeg,↓reduceIte,reduceCtorEq,List.replicate]
   refine callV_flat (by rw[hC];exact hbi.flat rfl rfl) ?_
   simp (disch:=first|omega|assumption|exact bd (by with_unfolding_all rfl)|exact Or.inl rfl|(simp only[VVlen]<;>omega)|fail) only[O1,WA,slotsL,opdsA,Nat.reduceEqDiff,Nat.reduceLT,Nat.reduceAdd,Nat.reduceBEq,Int.reduceAdd,Int.reduceSub,Int.reduceLT,Int.reduceLE,Int.reduceEq,Int.reduceNeg,↓reduceIte,reduceCtorEq,List.replicate]
   exact weak_flat rfl h0 rfl
 ·have h3:=idxN_of h1 h2
  have h4:i0.op=op:=by omega
  refine ⟨h4,?_,?_⟩
  ·rw[h2];exact (cutB_head h1).2
  ·rw[partI_zero,h4]
end
end Go.Proofs.YtbefpfbidgfipaaDoor
namespace Go.Proofs.YtbefpfbidgfipaaDoor
open Go Go.Itp
set_option maxRecDepth 100000
set_option maxHeartbeats 2000000
set_option linter.unusedSimpArgs false
set_option linter.unusedVariables false
abbrev rdC1:AC:=AC.r (AC.r (AC.r (AC.r (AC.r (AC.r c11.code)))))
abbrev rdC2:AC:=AC.r rdC1
abbrev rdC3:AC:=AC.r rdC2
abbrev rdC4:AC:=AC.r rdC3
abbrev rdC5:AC:=AC.r rdC4
abbrev rdF (s:List UInt8) (ws:List (List UInt8)) (a:Nat) (e:VFr):VFr:=(0,strV s)::(2,.ptr 0 0)::(4,strs 2 ws)::(5,.ptr 1 0)::(7,.sc (.int .i64 a))::e
abbrev rdE (k:Nat) (e:VFr):Prop:=e= []∨e= [(k,.sc (.bool false))]
abbrev rdH (i:Ins):VSt:=⟨[(1,insB' i),(0,insB' ins0)],2,0⟩
section
variable (w:World) (n:Nat)
theorem rd_b1 {C:Ctx} {X:AC} {P:VPost} (s:List UInt8) (ws:List (List UInt8)) (i:Ins) (hwl:ws.length≤1000) (ho:i.op<10)
  (h1:3≤i.op∧i.op≤6∧1<ws.length→gC C X [] (rdF s ws 2 []) (rdH ⟨i.op,decide (ws[1]! = [43]),i.bed,i.pos,i.to,i.car,i.rack⟩) P)
  (h2:¬ (3≤i.op∧i.op≤6∧1<ws.length)→gC C X [] (rdF s ws 1 [(40,.sc (.bool false))]) (rdH i) P):
  gC C (.seq (AC.l rdC1) X) [] (rdF s ws 1 []) (rdH i) P:=by
 have hwm:(ws.map sD).length=ws.length:=by rw[List.length_map]
 have h43:(⟨#[43]⟩:ByteArray)=⟨([43]:List UInt8).toArray⟩:=rfl
 have t1:ws[Int.toNat 1]! =ws[1]! :=rfl
 by_cases hc:3≤i.op∧i.op≤6∧1<ws.length
 ·have h1:=h1 hc
  obtain ⟨c1,c2,c3⟩:=hc
  simp (disch:=first|omega|assumption|exact bd (by with_unfolding_all rfl)|exact Or.inl rfl|(simp only[VVlen]<;>omega)|fail) only[O1,WA,slotsL,opdsA,Nat.reduceEqDiff,Nat.reduceLT,Nat.reduceAdd,Nat.reduceBEq,Int.reduceAdd,Int.reduceSub,Int.reduceLT,Int.reduceLE,Int.reduceEq,Int.reduceNeg,↓reduceIte,reduceCtorEq,List.replicate,rdC4,rdC3,rdC2,rdC1,c11,AC.l,AC.r,sD_dv,t1,h43,mk_inj]
  all_goals try (exfalso;omega)
  exact h1
 ·have h2:=h2 hc
  repeat' (first|(simp (disch:=first|omega|assumption|exact bd (by with_unfolding_all rfl)|exact Or.inl rfl|(simp only[VVlen]<;>omega)|fail) only[O1,WA,slotsL,opdsA,Nat.reduceEqDiff,Nat.reduceLT,Nat.reduceAdd,Nat.reduceBEq,Int.reduceAdd,Int.reduceSub,Int.reduceLT,Int.reduceLE,Int.reduceEq,Int.reduceNeg,↓reduceIte,reduceCtorEq,List.replicate,rdC4,rdC3,rdC2,rdC1,c11,AC.l,AC.r,sD_dv,t1,h43,mk_inj])|apply gC_drawW|((first|apply gI_dec|apply gG_dec|apply gPG_dec|apply gI_var|apply gG_var|apply gPG_var)<;>intro _))
  all_goals try (exfalso;omega)
  all_goals exact h2
theorem rd_b2 {C:Ctx} (hC:C.E=EN w (n+3)) {X:AC} {P:VPost} {e:VFr} (he:rdE 40 e) (s:List UInt8) (ws:List (List UInt8)) (i:Ins) (a:Nat) (hwl:ws.length≤1000) (hx:∀ x ∈ ws,x.length≤1000000) (ha:a≤10) (ho:i.op<10)
  (h1:3≤i.op∧i.op ≠ 8∧a<ws.length→∀ b z,(∀ b0 z0,b0≤1→ -1000≤z0→z0≤1000→ws[a]! =ndl b0 z0→b=b0∧z=z0)→gC C X [] (rdF s ws (a+1) []) (rdH ⟨i.op,i.right,b,z,i.to,i.car,i.rack⟩) P)
  (h2:¬ (3≤i.op∧i.op ≠ 8∧a<ws.length)→gC C X [] (rdF s ws a [(59,.sc (.bool false))]) (rdH i) P):
  gC C (.seq (AC.l rdC2) X) [] (rdF s ws a e) (rdH i) P:=by
 rcases he with rfl|rfl
 ·have hwm:(ws.map sD).length=ws.length:=by rw[List.length_map]
  by_cases hc:3≤i.op∧i.op ≠ 8∧a<ws.length
  ·obtain ⟨c1,c2,c3⟩:=id hc
   have hm:ws[a]! ∈ ws:=by rw[getElem!_pos ws a c3];exact List.getElem_mem _
   obtain ⟨b,z,f,hn,hp⟩:=rneedle_ex w n ws[a]! (hx _ hm)
   have h1:=h1 hc b z hp
   simp (disch:=first|omega|assumption|exact bd (by with_unfolding_all rfl)|exact Or.inl rfl|(simp only[VVlen]<;>omega)|fail) only[O1,WA,slotsL,opdsA,Nat.reduceEqDiff,Nat.reduceLT,Nat.reduceAdd,Nat.reduceBEq,Int.reduceAdd,Int.reduceSub,Int.reduceLT,Int.reduceLE,Int.reduceEq,Int.reduceNeg,↓reduceIte,reduceCtorEq,List.replicate,rdC4,rdC3,rdC2,rdC1,c11,AC.l,AC.r,sD_dv]
   all_goals try (exfalso;omega)
   refine callV_flat (by rw[hC];exact hn.flat rfl rfl) ?_
   simp (disch:=first|omega|assumption|exact bd (by with_unfolding_all rfl)|exact Or.inl rfl|(simp only[VVlen]<;>omega)|fail) only[O1,WA,slotsL,opdsA,Nat.reduceEqDiff,Nat.reduceLT,Nat.reduceAdd,Nat.reduceBEq,Int.reduceAdd,Int.reduceSub,Int.reduceLT,Int.reduceLE,Int.reduceEq,Int.reduceNeg,↓reduceIte,reduceCtorEq,List.replicate]
   exact h1
  ·have h2:=h2 hc
   repeat' (first|(simp (disch:=first|omega|assumption|exact bd (by with_unfolding_all rfl)|exact Or.inl rfl|(simp only[VVlen]<;>omega)|fail) only[O1,WA,slotsL,opdsA,Nat.reduceEqDiff,Nat.reduceLT,Nat.reduceAdd,Nat.reduceBEq,Int.reduceAdd,Int.reduceSub,Int.reduceLT,Int.reduceLE,Int.reduceEq,Int.reduceNeg,↓reduceIte,reduceCtorEq,List.replicate,rdC4,rdC3,rdC2,rdC1,c11,AC.l,AC.r,sD_dv])|apply gC_drawW|((first|apply gI_dec|apply gG_dec|apply gPG_dec|apply gI_var|apply gG_var|apply gPG_var)<;>intro _))
   all_goals try (exfalso;omega)
   all_goals exact h2
 ·have hwm:(ws.map sD).length=ws.length:=by rw[List.length_map]
  by_cases hc:3≤i.op∧i.op ≠ 8∧a<ws.length
  ·obtain ⟨c1,c2,c3⟩:=id hc
   have hm:ws[a]! ∈ ws:=by rw[getElem!_pos ws a c3];exact List.getElem_mem _
   obtain ⟨b,z,f,hn,hp⟩:=rneedle_ex w n ws[a]! (hx _ hm)
   have h1:=h1 hc b z hp
   simp (disch:=first|omega|assumption|exact bd (by with_unfolding_all rfl)|exact Or.inl rfl|(simp only[VVlen]<;>omega)|fail) only[O1,WA,slotsL,opdsA,Nat.reduceEqDiff,Nat.reduceLT,Nat.reduceAdd,Nat.reduceBEq,Int.reduceAdd,Int.reduceSub,Int.reduceLT,Int.reduceLE,Int.reduceEq,Int.reduceNeg,↓reduceIte,reduceCtorEq,List.replicate,rdC4,rdC3,rdC2,rdC1,c11,AC.l,AC.r,sD_dv]
   all_goals try (exfalso;omega)
   refine callV_flat (by rw[hC];exact hn.flat rfl rfl) ?_
   simp (disch:=first|omega|assumption|exact bd (by with_unfolding_all rfl)|exact Or.inl rfl|(simp only[VVlen]<;>omega)|fail) only[O1,WA,slotsL,opdsA,Nat.reduceEqDiff,Nat.reduceLT,Nat.reduceAdd,Nat.reduceBEq,Int.reduceAdd,Int.reduceSub,Int.reduceLT,Int.reduceLE,Int.reduceEq,Int.reduceNeg,↓reduceIte,reduceCtorEq,List.replicate]
   exact h1
  ·have h2:=h2 hc
   repeat' (first|(simp (disch:=first|omega|assumption|exact bd (by with_unfolding_all rfl)|exact Or.inl rfl|(simp only[VVlen]<;>omega)|fail) only[O1,WA,slotsL,opdsA,Nat.reduceEqDiff,Nat.reduceLT,Nat.reduceAdd,Nat.reduceBEq,Int.reduceAdd,Int.reduceSub,Int.reduceLT,Int.reduceLE,Int.reduceEq,Int.reduceNeg,↓reduceIte,reduceCtorEq,List.replicate,rdC4,rdC3,rdC2,rdC1,c11,AC.l,AC.r,sD_dv])|apply gC_drawW|((first|apply gI_dec|apply gG_dec|apply gPG_dec|apply gI_var|apply gG_var|apply gPG_var)<;>intro _))
   all_goals try (exfalso;omega)
   all_goals exact h2
theorem rd_b3 {C:Ctx} (hC:C.E=EN w (n+3)) {X:AC} {P:VPost} {e:VFr} (he:rdE 59 e) (s:List UInt8) (ws:List (List UInt8)) (i:Ins) (a:Nat) (hwl:ws.length≤1000) (hx:∀ x ∈ ws,x.length≤1000000) (ha:a≤10) (ho:i.op<10)
  (h1:(i.op=6∨i.op=7)∧a<ws.length→∀ z,(∀ b0 z0,b0≤1→ -1000≤z0→z0≤1000→ws[a]! =ndl b0 z0→z=z0)→gC C X [] (rdF s ws (a+1) []) (rdH ⟨i.op,i.right,i.bed,i.pos,z,i.car,i.rack⟩) P)
  (h2:¬ ((i.op=6∨i.op=7)∧a<ws.length)→gC C X [] (rdF s ws a [(86,.sc (.bool false))]) (rdH i) P):
  gC C (.seq (AC.l rdC3) X) [] (rdF s ws a e) (rdH i) P:=by
 rcases he with rfl|rfl
 ·have hwm:(ws.map sD).length=ws.length:=by rw[List.length_map]
  by_cases hc:(i.op=6∨i.op=7)∧a<ws.length
  ·obtain ⟨c1,c3⟩:=id hc
   have hm:ws[a]! ∈ ws:=by rw[getElem!_pos ws a c3];exact List.getElem_mem _
   obtain ⟨b,z,f,hn,hp⟩:=rneedle_ex w n ws[a]! (hx _ hm)
   have h1:=h1 hc z (fun b0 z0 e1 e2 e3 e4=>(hp b0 z0 e1 e2 e3 e4).2)
   repeat' (first|(simp (disch:=first|omega|assumption|exact bd (by with_unfolding_all rfl)|exact Or.inl rfl|(simp only[VVlen]<;>omega)|fail) only[O1,WA,slotsL,opdsA,Nat.reduceEqDiff,Nat.reduceLT,Nat.reduceAdd,Nat.reduceBEq,Int.reduceAdd,Int.reduceSub,Int.reduceLT,Int.reduceLE,Int.reduceEq,Int.reduceNeg,↓reduceIte,reduceCtorEq,List.replicate,rdC4,rdC3,rdC2,rdC1,c11,AC.l,AC.r,sD_dv])|apply gC_drawW|((first|apply gI_dec|apply gG_dec|apply gPG_dec|apply gI_var|apply gG_var|apply gPG_var)<;>intro _))
   all_goals try (exfalso;omega)
   all_goals refine callV_flat (by rw[hC];exact hn.flat rfl rfl) ?_
   all_goals
    repeat' (first|(simp (disch:=first|omega|assumption|exact bd (by with_unfolding_all rfl)|exact Or.inl rfl|(simp only[VVlen]<;>omega)|fail) only[O1,WA,slotsL,opdsA,Nat.reduceEqDiff,Nat.reduceLT,Nat.reduceAdd,Nat.reduceBEq,Int.reduceAdd,Int.reduceSub,Int.reduceLT,Int.reduceLE,Int.reduceEq,Int.reduceNeg,↓reduceIte,reduceCtorEq,List.replicate])|apply gC_drawW|((first|apply gI_dec|apply gG_dec|apply gPG_dec|apply gI_var|apply gG_var|apply gPG_var)<;>intro _))
    exact h1
  ·have h2:=h2 hc
   repeat' (first|(simp (disch:=first|omega|assumption|exact bd (by with_unfolding_all rfl)|exact Or.inl rfl|(simp only[VVlen]<;>omega)|fail) only[O1,WA,slotsL,opdsA,Nat.reduceEqDiff,Nat.reduceLT,Nat.reduceAdd,Nat.reduceBEq,Int.reduceAdd,Int.reduceSub,Int.reduceLT,Int.reduceLE,Int.reduceEq,Int.reduceNeg,↓reduceIte,reduceCtorEq,List.replicate,rdC4,rdC3,rdC2,rdC1,c11,AC.l,AC.r,sD_dv])|apply gC_drawW|((first|apply gI_dec|apply gG_dec|apply gPG_dec|apply gI_var|apply gG_var|apply gPG_var)<;>intro _))
   all_goals try (exfalso;omega)
   all_goals exact h2
 ·have hwm:(ws.map sD).length=ws.length:=by rw[List.length_map]
  by_cases hc:(i.op=6∨i.op=7)∧a<ws.length
  ·obtain ⟨c1,c3⟩:=id hc
   have hm:ws[a]! ∈ ws:=by rw[getElem!_pos ws a c3];exact List.getElem_mem _
   obtain ⟨b,z,f,hn,hp⟩:=rneedle_ex w n ws[a]! (hx _ hm)
   have h1:=h1 hc z (fun b0 z0 e1 e2 e3 e4=>(hp b0 z0 e1 e2 e3 e4).2)
   repeat' (first|(simp (disch:=first|omega|assumption|exact bd (by with_unfolding_all rfl)|exact Or.inl rfl|(simp only[VVlen]<;>omega)|fail) only[O1,WA,slotsL,opdsA,Nat.reduceEqDiff,Nat.reduceLT,Nat.reduceAdd,Nat.reduceBEq,Int.reduceAdd,Int.reduceSub,Int.reduceLT,Int.reduceLE,Int.reduceEq,Int.reduceNeg,↓reduceIte,reduceCtorEq,List.replicate,rdC4,rdC3,rdC2,rdC1,c11,AC.l,AC.r,sD_dv])|apply gC_drawW|((first|apply gI_dec|apply gG_dec|apply gPG_dec|apply gI_var|apply gG_var|apply gPG_var)<;>intro _))
   all_goals try (exfalso;omega)
   all_goals refine callV_flat (by rw[hC];exact hn.flat rfl rfl) ?_
   all_goals
    repeat' (first|(simp (disch:=first|omega|assumption|exact bd (by with_unfolding_all rfl)|exact Or.inl rfl|(simp only[VVlen]<;>omega)|fail) only[O1,WA,slotsL,opdsA,Nat.reduceEqDiff,Nat.reduceLT,Nat.reduceAdd,Nat.reduceBEq,Int.reduceAdd,Int.reduceSub,Int.reduceLT,Int.reduceLE,Int.reduceEq,Int.reduceNeg,↓reduceIte,reduceCtorEq,List.replicate])|apply gC_drawW|((first|apply gI_dec|apply gG_dec|apply gPG_dec|apply gI_var|apply gG_var|apply gPG_var)<;>intro _))
    exact h1
  ·have h2:=h2 hc
   repeat' (first|(simp (disch:=first|omega|assumption|exact bd (by with_unfolding_all rfl)|exact Or.inl rfl|(simp only[VVlen]<;>omega)|fail) only[O1,WA,slotsL,opdsA,Nat.reduceEqDiff,Nat.reduceLT,Nat.reduceAdd,Nat.reduceBEq,Int.reduceAdd,Int.reduceSub,Int.reduceLT,Int.reduceLE,Int.reduceEq,Int.reduceNeg,↓reduceIte,reduceCtorEq,List.replicate,rdC4,rdC3,rdC2,rdC1,c11,AC.l,AC.r,sD_dv])|apply gC_drawW|((first|apply gI_dec|apply gG_dec|apply gPG_dec|apply gI_var|apply gG_var|apply gPG_var)<;>intro _))
   all_goals try (exfalso;omega)
   all_goals exact h2
theorem rd_b4 {C:Ctx} (hC:C.E=EN w (n+3)) {X:AC} {P:VPost} {e:VFr} (he:rdE 86 e) (s:List UInt8) (ws:List (List UInt8)) (i:Ins) (a:Nat) (hwl:ws.length≤1000) (hx:∀ x ∈ ws,x.length≤1000000) (ha:a≤10) (ho:i.op<10)
  (h1:i.op ≠ 7∧i.op ≠ 9∧a<ws.length→∀ z,(∀ z0,-1000≤z0→z0≤1000→ws[a]! =Lib.itoa z0→z=z0)→gC C X [] [(0,strV s),(2,.ptr 0 0),(5,.ptr 1 0)] (rdH (if i.op=8 then ⟨i.op,i.right,i.bed,i.pos,i.to,i.car,z⟩ else ⟨i.op,i.right,i.bed,i.pos,i.to,z,i.rack⟩)) P)
  (h2:¬ (i.op ≠ 7∧i.op ≠ 9∧a<ws.length)→gC C X [] (rdF s ws a [(112,.sc (.bool false))]) (rdH i) P):
  gC C (.seq (AC.l rdC4) X) [] (rdF s ws a e) (rdH i) P:=by
 rcases he with rfl|rfl
 ·have hwm:(ws.map sD).length=ws.length:=by rw[List.length_map]
  by_cases hc:i.op ≠ 7∧i.op ≠ 9∧a<ws.length
  ·obtain ⟨c1,c2,c3⟩:=id hc
   have hm:ws[a]! ∈ ws:=by rw[getElem!_pos ws a c3];exact List.getElem_mem _
   obtain ⟨z,f,hn,hp⟩:=rnum_ex w (n+1) ws[a]! (hx _ hm)
   have h1:=h1 hc z hp
   by_cases h8:i.op=8
   ·rw[if_pos h8] at h1
    simp (disch:=first|omega|assumption|exact bd (by with_unfolding_all rfl)|exact Or.inl rfl|(simp only[VVlen]<;>omega)|fail) only[O1,WA,slotsL,opdsA,Nat.reduceEqDiff,Nat.reduceLT,Nat.reduceAdd,Nat.reduceBEq,Int.reduceAdd,Int.reduceSub,Int.reduceLT,Int.reduceLE,Int.reduceEq,Int.reduceNeg,↓reduceIte,reduceCtorEq,List.replicate,rdC4,rdC3,rdC2,rdC1,c11,AC.l,AC.r,sD_dv]
    all_goals try (exfalso;omega)
    refine callV_flat (by rw[hC];exact hn.flat rfl rfl) ?_
    simp (disch:=first|omega|assumption|exact bd (by with_unfolding_all rfl)|exact Or.inl rfl|(simp only[VVlen]<;>omega)|fail) only[O1,WA,slotsL,opdsA,Nat.reduceEqDiff,Nat.reduceLT,Nat.reduceAdd,Nat.reduceBEq,Int.reduceAdd,Int.reduceSub,Int.reduceLT,Int.reduceLE,Int.reduceEq,Int.reduceNeg,↓reduceIte,reduceCtorEq,List.replicate]
    all_goals try (exfalso;omega)
    exact h1
   ·rw[if_neg h8] at h1
    simp (disch:=first|omega|assumption|exact bd (by with_unfolding_all rfl)|exact Or.inl rfl|(simp only[VVlen]<;>omega)|fail) only[O1,WA,slotsL,opdsA,Nat.reduceEqDiff,Nat.reduceLT,Nat.reduceAdd,Nat.reduceBEq,Int.reduceAdd,Int.reduceSub,Int.reduceLT,Int.reduceLE,Int.reduceEq,Int.reduceNeg,↓reduceIte,reduceCtorEq,List.replicate,rdC4,rdC3,rdC2,rdC1,c11,AC.l,AC.r,sD_dv]
    all_goals try (exfalso;omega)
    refine callV_flat (by rw[hC];exact hn.flat rfl rfl) ?_
    simp (disch:=first|omega|assumption|exact bd (by with_unfolding_all rfl)|exact Or.inl rfl|(simp only[VVlen]<;>omega)|fail) only[O1,WA,slotsL,opdsA,Nat.reduceEqDiff,Nat.reduceLT,Nat.reduceAdd,Nat.reduceBEq,Int.reduceAdd,Int.reduceSub,Int.reduceLT,Int.reduceLE,Int.reduceEq,Int.reduceNeg,↓reduceIte,reduceCtorEq,List.replicate]
    all_goals try (exfalso;omega)
    exact h1
  ·have h2:=h2 hc
   repeat' (first|(simp (disch:=first|omega|assumption|exact bd (by with_unfolding_all rfl)|exact Or.inl rfl|(simp only[VVlen]<;>omega)|fail) only[O1,WA,slotsL,opdsA,Nat.reduceEqDiff,Nat.reduceLT,Nat.reduceAdd,Nat.reduceBEq,Int.reduceAdd,Int.reduceSub,Int.reduceLT,Int.reduceLE,Int.reduceEq,Int.reduceNeg,↓reduceIte,reduceCtorEq,List.replicate,rdC4,rdC3,rdC2,rdC1,c11,AC.l,AC.r,sD_dv])|apply gC_drawW|((first|apply gI_dec|apply gG_dec|apply gPG_dec|apply gI_var|apply gG_var|apply gPG_var)<;>intro _))
   all_goals try (exfalso;omega)
   all_goals exact h2
 ·have hwm:(ws.map sD).length=ws.length:=by rw[List.length_map]
  by_cases hc:i.op ≠ 7∧i.op ≠ 9∧a<ws.length
  ·obtain ⟨c1,c2,c3⟩:=id hc
   have hm:ws[a]! ∈ ws:=by rw[getElem!_pos ws a c3];exact List.getElem_mem _
   obtain ⟨z,f,hn,hp⟩:=rnum_ex w (n+1) ws[a]! (hx _ hm)
   have h1:=h1 hc z hp
   by_cases h8:i.op=8
   ·rw[if_pos h8] at h1
    simp (disch:=first|omega|assumption|exact bd (by with_unfolding_all rfl)|exact Or.inl rfl|(simp only[VVlen]<;>omega)|fail) only[O1,WA,slotsL,opdsA,Nat.reduceEqDiff,Nat.reduceLT,Nat.reduceAdd,Nat.reduceBEq,Int.reduceAdd,Int.reduceSub,Int.reduceLT,Int.reduceLE,Int.reduceEq,Int.reduceNeg,↓reduceIte,reduceCtorEq,List.replicate,rdC4,rdC3,rdC2,rdC1,c11,AC.l,AC.r,sD_dv]
    all_goals try (exfalso;omega)
    refine callV_flat (by rw[hC];exact hn.flat rfl rfl) ?_
    simp (disch:=first|omega|assumption|exact bd (by with_unfolding_all rfl)|exact Or.inl rfl|(simp only[VVlen]<;>omega)|fail) only[O1,WA,slotsL,opdsA,Nat.reduceEqDiff,Nat.reduceLT,Nat.reduceAdd,Nat.reduceBEq,Int.reduceAdd,Int.reduceSub,Int.reduceLT,Int.reduceLE,Int.reduceEq,Int.reduceNeg,↓reduceIte,reduceCtorEq,List.replicate]
    all_goals try (exfalso;omega)
    exact h1
   ·rw[if_neg h8] at h1
    simp (disch:=first|omega|assumption|exact bd (by with_unfolding_all rfl)|exact Or.inl rfl|(simp only[VVlen]<;>omega)|fail) only[O1,WA,slotsL,opdsA,Nat.reduceEqDiff,Nat.reduceLT,Nat.reduceAdd,Nat.reduceBEq,Int.reduceAdd,Int.reduceSub,Int.reduceLT,Int.reduceLE,Int.reduceEq,Int.reduceNeg,↓reduceIte,reduceCtorEq,List.replicate,rdC4,rdC3,rdC2,rdC1,c11,AC.l,AC.r,sD_dv]
    all_goals try (exfalso;omega)
    refine callV_flat (by rw[hC];exact hn.flat rfl rfl) ?_
    simp (disch:=first|omega|assumption|exact bd (by with_unfolding_all rfl)|exact Or.inl rfl|(simp only[VVlen]<;>omega)|fail) only[O1,WA,slotsL,opdsA,Nat.reduceEqDiff,Nat.reduceLT,Nat.reduceAdd,Nat.reduceBEq,Int.reduceAdd,Int.reduceSub,Int.reduceLT,Int.reduceLE,Int.reduceEq,Int.reduceNeg,↓reduceIte,reduceCtorEq,List.replicate]
    all_goals try (exfalso;omega)
    exact h1
  ·have h2:=h2 hc
   repeat' (first|(simp (disch:=first|omega|assumption|exact bd (by with_unfolding_all rfl)|exact Or.inl rfl|(simp only[VVlen]<;>omega)|fail) only[O1,WA,slotsL,opdsA,Nat.reduceEqDiff,Nat.reduceLT,Nat.reduceAdd,Nat.reduceBEq,Int.reduceAdd,Int.reduceSub,Int.reduceLT,Int.reduceLE,Int.reduceEq,Int.reduceNeg,↓reduceIte,reduceCtorEq,List.replicate,rdC4,rdC3,rdC2,rdC1,c11,AC.l,AC.r,sD_dv])|apply gC_drawW|((first|apply gI_dec|apply gG_dec|apply gPG_dec|apply gI_var|apply gG_var|apply gPG_var)<;>intro _))
   all_goals try (exfalso;omega)
   all_goals exact h2
end
set_option maxHeartbeats 4000000
theorem itoa_len4 {z:Int} (h0: -1000<z) (h1:z<1000):(Lib.itoa z).length≤4:=by
 have hd:=decDigits_len 2 z.natAbs (by simpa using (by omega:z.natAbs<1000))
 rcases Int.lt_or_le z 0 with h|h
 ·have e:Lib.itoa z=45::Lib.decDigits z.natAbs:=by unfold Lib.itoa;rw[if_pos h]
  rw[e];simp;omega
 ·obtain ⟨u,rfl⟩:=Int.eq_ofNat_of_zero_le h
  rw[Lib.itoa_nonneg]
  simp only[Int.natAbs_natCast] at hd
  omega
theorem nameI_len5:∀ op,op<10→(nameI op).length≤5:=by decide
theorem textI_len40 {i:Ins} (h:InsP i):(textI i).length≤40:=by
 have hb:=h.bounds
 have h1:∀ z:Int,-101≤z∧z≤101→(Lib.itoa z).length≤4:=fun z hz=>itoa_len4 (by omega) (by omega)
 have h2:∀ w ∈ nameI i.op::(partsI i.op).map (partT i),w.length≤5:=fun w hw=>by
  rcases List.mem_cons.1 hw with rfl|hw
  ·exact nameI_len5 i.op h.op_lt.2
  ·obtain ⟨c,_,rfl⟩:=List.mem_map.1 hw
   unfold partT
   split
   ·split<;>simp
   split
   ·have:=h1 i.pos (by unfold ndOK at hb;omega);unfold ndl;simp;omega
   split
   ·have:=h1 i.to (by unfold ndOK at hb;omega);unfold ndl;simp;omega
   split
   ·have:=h1 i.car (by omega);omega
   ·have:=h1 i.rack (by omega);omega
 have h3:=join_len 32 5 _ h2
 have h4:=partsI_len h.op_lt.2
 have h5:(nameI i.op::(partsI i.op).map (partT i)).length≤5:=by rw[List.length_cons,List.length_map];omega
 unfold textI
 have:=Nat.mul_le_mul_right 6 h5
 omega
def opN (wd:List UInt8):Nat→Nat
 |0=>0
 |k+1=>if 0<k∧nameI k=wd then k else opN wd k
theorem opN_lt (wd:List UInt8):∀ k,opN wd k<k+1
 |0=>by unfold opN;omega
 |k+1=>by
  have:=opN_lt wd k
  unfold opN
  split<;>omega
theorem opN_10 (wd:List UInt8):opN wd 10<10:=by
 have:=opN_lt wd 9
 show (if 0<9∧nameI 9=wd then 9 else opN wd 9)<10
 split<;>omega
theorem opN_name:∀ op,op<10→0<op→opN (nameI op) 10=op:=by decide
theorem ws_facts {i0:Ins} (h:InsP i0):(words 32 (textI i0))[0]! =nameI i0.op∧
  (3≤i0.op∧i0.op≤6→4≤(words 32 (textI i0)).length∧(words 32 (textI i0))[1]! =(if i0.right=true then [43] else [45])∧(words 32 (textI i0))[2]! =ndl i0.bed i0.pos)∧
  (3≤i0.op∧i0.op≤5→(words 32 (textI i0))[3]! =Lib.itoa i0.car)∧
  (i0.op=6→5≤(words 32 (textI i0)).length∧(words 32 (textI i0))[3]! =ndl (1 - i0.bed) i0.to∧(words 32 (textI i0))[4]! =Lib.itoa i0.car)∧
  (i0.op=7→3≤(words 32 (textI i0)).length∧(words 32 (textI i0))[1]! =ndl i0.bed i0.pos∧(words 32 (textI i0))[2]! =ndl (1 - i0.bed) i0.to)∧
  (i0.op=9→2≤(words 32 (textI i0)).length∧(words 32 (textI i0))[1]! =ndl i0.bed i0.pos)∧
  (i0.op=8→2≤(words 32 (textI i0)).length∧(words 32 (textI i0))[1]! =Lib.itoa i0.rack)∧
  (i0.op≤2→2≤(words 32 (textI i0)).length∧(words 32 (textI i0))[1]! =Lib.itoa i0.car):=by
 rw[textI_words]
 have hop:=h.op_lt
 clear h
 obtain ⟨op,right,bed,pos,to,car,rack⟩:=i0
 simp only at hop ⊢
 rcases (by omega:op=1∨op=2∨op=3∨op=4∨op=5∨op=6∨op=7∨op=8∨op=9) with rfl|rfl|rfl|rfl|rfl|rfl|rfl|rfl|rfl
 all_goals
  refine ⟨rfl,fun h=>?_,fun h=>?_,fun h=>?_,fun h=>?_,fun h=>?_,fun h=>?_,fun h=>?_⟩
  all_goals first|(exfalso;omega)|rfl|exact ⟨by simp[partsI],rfl⟩|exact ⟨by simp[partsI],rfl,rfl⟩
theorem insP_rest0 {i:Ins} (h:InsP i):(¬ (3≤i.op∧i.op≤6)→i.right=false)∧(i.op≤2∨i.op=8→i.bed=0∧i.pos=0)∧(i.op ≠ 6∧i.op ≠ 7→i.to=0)∧(7≤i.op→i.car=0)∧(i.op ≠ 8→i.rack=0)∧i.bed≤1∧ -100≤i.pos∧i.pos≤100∧ -100≤i.to∧i.to≤100∧0≤i.car∧i.car≤6∧ -8≤i.rack∧i.rack≤8:=by
 unfold InsP ndOK at h
 refine ⟨fun h2=>?_,by omega,by omega,by omega,by omega,by omega,by omega,by omega,by omega,by omega,by omega,by omega,by omega,by omega⟩
 rcases h with h|h|h|h|h|h
 ·exact h.2.2.1
 ·exfalso;omega
 ·exfalso;omega
 ·exact h.2.1
 ·exact h.2.1
 ·exact h.2.1
section
variable (w:World) (n:Nat)
theorem rd_t5 {C:Ctx} (hC:C.E=EN w (n+4)) (h0:C.w0.nx=0) (s:List UInt8) (i:Ins) (hi:∀ i0,InsP i0→s=textI i0→i=i0) {fr:VFr} (hfr:fr= [(0,strV s),(2,.ptr 0 0),(5,.ptr 1 0)]∨∃ ws a,fr=rdF s ws a [(112,.sc (.bool false))]):
  gC C rdC5 [] fr (rdH i) (RetV C c11.res (resI (readO s)) ⟨[],0,0⟩):=by
 have hbi:=rinstr_p w (n+2) i
 by_cases hv:insOK i=true
 ·have hl:=written_p w n i (insOK_iff.1 hv)
  rw[if_pos hv] at hbi
  unfold insV at hbi hl
  by_cases ht:textI i=s
  ·have hr:readO s=some i:=by rw[← ht];exact readO_text (insOK_iff.1 hv)
   rw[hr]
   rcases hfr with rfl|⟨ws,a,rfl⟩
   ·simp (disch:=first|omega|assumption|exact bd (by with_unfolding_all rfl)|exact Or.inl rfl|(simp only[VVlen]<;>omega)|fail) only[O1,WA,slotsL,opdsA,Nat.reduceEqDiff,Nat.reduceLT,Nat.reduceAdd,Nat.reduceBEq,Int.reduceAdd,Int.reduceSub,Int.reduceLT,Int.reduceLE,Int.reduceEq,Int.reduceNeg,↓reduceIte,reduceCtorEq,List.replicate,rdC5,rdC4,rdC3,rdC2,rdC1,c11,AC.r]
    refine callV_flat (by rw[hC];exact hbi.flat rfl rfl) ?_
    simp (disch:=first|omega|assumption|exact bd (by with_unfolding_all rfl)|exact Or.inl rfl|(simp only[VVlen]<;>omega)|fail) only[O1,WA,slotsL,opdsA,Nat.reduceEqDiff,Nat.reduceLT,Nat.reduceAdd,Nat.reduceBEq,Int.reduceAdd,Int.reduceSub,Int.reduceLT,Int.reduceLE,Int.reduceEq,Int.reduceNeg,↓reduceIte,reduceCtorEq,List.replicate]
    refine callV_flat (by rw[hC];exact hl.flat rfl rfl) ?_
    simp (disch:=first|omega|assumption|exact bd (by with_unfolding_all rfl)|exact Or.inl rfl|(simp only[VVlen]<;>omega)|fail) only[O1,WA,slotsL,opdsA,Nat.reduceEqDiff,Nat.reduceLT,Nat.reduceAdd,Nat.reduceBEq,Int.reduceAdd,Int.reduceSub,Int.reduceLT,Int.reduceLE,Int.reduceEq,Int.reduceNeg,↓reduceIte,reduceCtorEq,List.replicate,ht]
    exact weak_flat rfl h0 rfl
   ·simp (disch:=first|omega|assumption|exact bd (by with_unfolding_all rfl)|exact Or.inl rfl|(simp only[VVlen]<;>omega)|fail) only[O1,WA,slotsL,opdsA,Nat.reduceEqDiff,Nat.reduceLT,Nat.reduceAdd,Nat.reduceBEq,Int.reduceAdd,Int.reduceSub,Int.reduceLT,Int.reduceLE,Int.reduceEq,Int.reduceNeg,↓reduceIte,reduceCtorEq,List.replicate,rdC5,rdC4,rdC3,rdC2,rdC1,c11,AC.r]
    refine callV_flat (by rw[hC];exact hbi.flat rfl rfl) ?_
    simp (disch:=first|omega|assumption|exact bd (by with_unfolding_all rfl)|exact Or.inl rfl|(simp only[VVlen]<;>omega)|fail) only[O1,WA,slotsL,opdsA,Nat.reduceEqDiff,Nat.reduceLT,Nat.reduceAdd,Nat.reduceBEq,Int.reduceAdd,Int.reduceSub,Int.reduceLT,Int.reduceLE,Int.reduceEq,Int.reduceNeg,↓reduceIte,reduceCtorEq,List.replicate]
    refine callV_flat (by rw[hC];exact hl.flat rfl rfl) ?_
    simp (disch:=first|omega|assumption|exact bd (by with_unfolding_all rfl)|exact Or.inl rfl|(simp only[VVlen]<;>omega)|fail) only[O1,WA,slotsL,opdsA,Nat.reduceEqDiff,Nat.reduceLT,Nat.reduceAdd,Nat.reduceBEq,Int.reduceAdd,Int.reduceSub,Int.reduceLT,Int.reduceLE,Int.reduceEq,Int.reduceNeg,↓reduceIte,reduceCtorEq,List.replicate,ht]
    exact weak_flat rfl h0 rfl
  ·rw[readO_none fun i0 h1 h2=>ht (by rw[hi i0 h1 h2.symm];exact h2)]
   rcases hfr with rfl|⟨ws,a,rfl⟩
   ·simp (disch:=first|omega|assumption|exact bd (by with_unfolding_all rfl)|exact Or.inl rfl|(simp only[VVlen]<;>omega)|fail) only[O1,WA,slotsL,opdsA,Nat.reduceEqDiff,Nat.reduceLT,Nat.reduceAdd,Nat.reduceBEq,Int.reduceAdd,Int.reduceSub,Int.reduceLT,Int.reduceLE,Int.reduceEq,Int.reduceNeg,↓reduceIte,reduceCtorEq,List.replicate,rdC5,rdC4,rdC3,rdC2,rdC1,c11,AC.r]
    refine callV_flat (by rw[hC];exact hbi.flat rfl rfl) ?_
    simp (disch:=first|omega|assumption|exact bd (by with_unfolding_all rfl)|exact Or.inl rfl|(simp only[VVlen]<;>omega)|fail) only[O1,WA,slotsL,opdsA,Nat.reduceEqDiff,Nat.reduceLT,Nat.reduceAdd,Nat.reduceBEq,Int.reduceAdd,Int.reduceSub,Int.reduceLT,Int.reduceLE,Int.reduceEq,Int.reduceNeg,↓reduceIte,reduceCtorEq,List.replicate]
    refine callV_flat (by rw[hC];exact hl.flat rfl rfl) ?_
    simp (disch:=first|omega|assumption|exact bd (by with_unfolding_all rfl)|exact Or.inl rfl|(simp only[VVlen]<;>omega)|fail) only[O1,WA,slotsL,opdsA,Nat.reduceEqDiff,Nat.reduceLT,Nat.reduceAdd,Nat.reduceBEq,Int.reduceAdd,Int.reduceSub,Int.reduceLT,Int.reduceLE,Int.reduceEq,Int.reduceNeg,↓reduceIte,reduceCtorEq,List.replicate,ht,mk_inj]
    exact weak_flat rfl h0 rfl
   ·simp (disch:=first|omega|assumption|exact bd (by with_unfolding_all rfl)|exact Or.inl rfl|(simp only[VVlen]<;>omega)|fail) only[O1,WA,slotsL,opdsA,Nat.reduceEqDiff,Nat.reduceLT,Nat.reduceAdd,Nat.reduceBEq,Int.reduceAdd,Int.reduceSub,Int.reduceLT,Int.reduceLE,Int.reduceEq,Int.reduceNeg,↓reduceIte,reduceCtorEq,List.replicate,rdC5,rdC4,rdC3,rdC2,rdC1,c11,AC.r]
    refine callV_flat (by rw[hC];exact hbi.flat rfl rfl) ?_
    simp (disch:=first|omega|assumption|exact bd (by with_unfolding_all rfl)|exact Or.inl rfl|(simp only[VVlen]<;>omega)|fail) only[O1,WA,slotsL,opdsA,Nat.reduceEqDiff,Nat.reduceLT,Nat.reduceAdd,Nat.reduceBEq,Int.reduceAdd,Int.reduceSub,Int.reduceLT,Int.reduceLE,Int.reduceEq,Int.reduceNeg,↓reduceIte,reduceCtorEq,List.replicate]
    refine callV_flat (by rw[hC];exact hl.flat rfl rfl) ?_
    simp (disch:=first|omega|assumption|exact bd (by with_unfolding_all rfl)|exact Or.inl rfl|(simp only[VVlen]<;>omega)|fail) only[O1,WA,slotsL,opdsA,Nat.reduceEqDiff,Nat.reduceLT,Nat.reduceAdd,Nat.reduceBEq,Int.reduceAdd,Int.reduceSub,Int.reduceLT,Int.reduceLE,Int.reduceEq,Int.reduceNeg,↓reduceIte,reduceCtorEq,List.replicate,ht,mk_inj]
    exact weak_flat rfl h0 rfl
 ·rw[readO_none fun i0 h1 h2=>hv (by rw[hi i0 h1 h2.symm];exact insOK_iff.2 h1)]
  rw[if_neg hv] at hbi
  unfold insV at hbi
  rcases hfr with rfl|⟨ws,a,rfl⟩
  ·simp (disch:=first|omega|assumption|exact bd (by with_unfolding_all rfl)|exact Or.inl rfl|(simp only[VVlen]<;>omega)|fail) only[O1,WA,slotsL,opdsA,Nat.reduceEqDiff,Nat.reduceLT,Nat.reduceAdd,Nat.reduceBEq,Int.reduceAdd,Int.reduceSub,Int.reduceLT,Int.reduceLE,Int.reduceEq,Int.reduceNeg,↓reduceIte,reduceCtorEq,List.replicate,rdC5,rdC4,rdC3,rdC2,rdC1,c11,AC.r]
   refine callV_flat (by rw[hC];exact hbi.flat rfl rfl) ?_
   simp (disch:=first|omega|assumption|exact bd (by with_unfolding_all rfl)|exact Or.inl rfl|(simp only[VVlen]<;>omega)|fail) only[O1,WA,slotsL,opdsA,Nat.reduceEqDiff,Nat.reduceLT,Nat.reduceAdd,Nat.reduceBEq,Int.reduceAdd,Int.reduceSub,Int.reduceLT,Int.reduceLE,Int.reduceEq,Int.reduceNeg,↓reduceIte,reduceCtorEq,List.replicate]
   exact weak_flat rfl h0 rfl
  ·simp (disch:=first|omega|assumption|exact bd (by with_unfolding_all rfl)|exact Or.inl rfl|(simp only[VVlen]<;>omega)|fail) only[O1,WA,slotsL,opdsA,Nat.reduceEqDiff,Nat.reduceLT,Nat.reduceAdd,Nat.reduceBEq,Int.reduceAdd,Int.reduceSub,Int.reduceLT,Int.reduceLE,Int.reduceEq,Int.reduceNeg,↓reduceIte,reduceCtorEq,List.replicate,rdC5,rdC4,rdC3,rdC2,rdC1,c11,AC.r]
   refine callV_flat (by rw[hC];exact hbi.flat rfl rfl) ?_
   simp (disch:=first|omega|assumption|exact bd (by with_unfolding_all rfl)|exact Or.inl rfl|(simp only[VVlen]<;>omega)|fail) only[O1,WA,slotsL,opdsA,Nat.reduceEqDiff,Nat.reduceLT,Nat.reduceAdd,Nat.reduceBEq,Int.reduceAdd,Int.reduceSub,Int.reduceLT,Int.reduceLE,Int.reduceEq,Int.reduceNeg,↓reduceIte,reduceCtorEq,List.replicate]
   exact weak_flat rfl h0 rfl
abbrev RdP (C:Ctx) (s:List UInt8):VPost:=RetV C c11.res (resI (readO s)) ⟨[],0,0⟩
theorem rd_t4 {C:Ctx} (hC:C.E=EN w (n+4)) (h0:C.w0.nx=0) (s:List UInt8) (ws:List (List UInt8)) (hws:ws=words 32 s) (hwl:ws.length≤1000) (hx:∀ x ∈ ws,x.length≤1000000) (op:Nat) (hop:op<10) (r:Bool) (b:Nat) (p t:Int) (a:Nat) (ha:a≤4)
  (hi:∀ i0,InsP i0→s=textI i0→op=i0.op∧r=i0.right∧b=i0.bed∧p=i0.pos∧t=i0.to∧a=(if i0.op=6 then 4 else if 3≤i0.op∧i0.op≤5 then 3 else if i0.op=7 then 3 else if i0.op=9 then 2 else 1)) {e:VFr} (he:rdE 86 e):
  gC C rdC4 [] (rdF s ws a e) (rdH ⟨op,r,b,p,t,0,0⟩) (RdP C s):=by
 change gC C (.seq (AC.l rdC4) rdC5) _ _ _ _
 refine rd_b4 w (n+1) hC he s ws ⟨op,r,b,p,t,0,0⟩ a hwl hx (by omega) hop (fun hc z hz=>?_) (fun hc=>?_)
 ·by_cases h8:op=8
  ·rw[if_pos h8]
   refine rd_t5 w n hC h0 s _ (fun i0 h1 h2=>?_) (.inl rfl)
   obtain ⟨e1,e2,e3,e4,e5,e6⟩:=hi i0 h1 h2
   obtain ⟨f0,f1,f2,f3,f4,f5,f6,f7⟩:=ws_facts h1
   obtain ⟨g0,g1,g2,g3,g4,g5⟩:=insP_rest0 h1
   have h88:i0.op=8:=by omega
   have ha1:a=1:=by rw[e6,h88];rfl
   have:=hz i0.rack (by omega) (by omega) (by rw[ha1,hws,h2];exact (f6 h88).2)
   exact Ins.ext' e1 e2 e3 e4 e5 (g3 (by omega)).symm this
  ·rw[if_neg h8]
   refine rd_t5 w n hC h0 s _ (fun i0 h1 h2=>?_) (.inl rfl)
   obtain ⟨e1,e2,e3,e4,e5,e6⟩:=hi i0 h1 h2
   obtain ⟨f0,f1,f2,f3,f4,f5,f6,f7⟩:=ws_facts h1
   obtain ⟨g0,g1,g2,g3,g4,g5⟩:=insP_rest0 h1
   simp only at hc
   have:=hz i0.car (by omega) (by omega) (by
    rw[hws,h2]
    by_cases k6:i0.op=6
    ·have:a=4:=by rw[e6,if_pos k6]
     rw[this];exact (f3 k6).2.2
    by_cases k3:3≤i0.op∧i0.op≤5
    ·have:a=3:=by rw[e6,if_neg k6,if_pos k3]
     rw[this];exact f2 k3
    have k1:i0.op≤2:=by omega
    have:a=1:=by rw[e6,if_neg k6,if_neg k3,if_neg (by omega),if_neg (by omega)]
    rw[this];exact (f7 k1).2)
   exact Ins.ext' e1 e2 e3 e4 e5 this (g4 (by omega)).symm
 ·refine rd_t5 w n hC h0 s _ (fun i0 h1 h2=>?_) (.inr ⟨_,_,rfl⟩)
  obtain ⟨e1,e2,e3,e4,e5,e6⟩:=hi i0 h1 h2
  obtain ⟨f0,f1,f2,f3,f4,f5,f6,f7⟩:=ws_facts h1
  obtain ⟨g0,g1,g2,g3,g4,g5⟩:=insP_rest0 h1
  simp only at hc
  have h79:i0.op=7∨i0.op=9:=by
   by_cases h79:i0.op=7∨i0.op=9
   ·exact h79
   exfalso
   refine hc ⟨by omega,by omega,?_⟩
   rw[hws,h2]
   have hop1:=h1.op_lt
   by_cases k6:i0.op=6
   ·have:a=4:=by rw[e6,if_pos k6]
    have:=(f3 k6).1;omega
   by_cases k3:3≤i0.op∧i0.op≤5
   ·have:a=3:=by rw[e6,if_neg k6,if_pos k3]
    have:=(f1 (by omega)).1;omega
   have:a=1:=by rw[e6,if_neg k6,if_neg k3,if_neg (by omega),if_neg (by omega)]
   by_cases k8:i0.op=8
   ·have:=(f6 k8).1;omega
   ·have:=(f7 (by omega)).1;omega
  exact Ins.ext' e1 e2 e3 e4 e5 (g3 (by omega)).symm (g4 (by omega)).symm
theorem rd_t3 {C:Ctx} (hC:C.E=EN w (n+4)) (h0:C.w0.nx=0) (s:List UInt8) (ws:List (List UInt8)) (hws:ws=words 32 s) (hwl:ws.length≤1000) (hx:∀ x ∈ ws,x.length≤1000000) (op:Nat) (hop:op<10) (r:Bool) (b:Nat) (p:Int) (a:Nat) (ha:a≤3)
  (hi:∀ i0,InsP i0→s=textI i0→op=i0.op∧r=i0.right∧b=i0.bed∧p=i0.pos∧a=(if 3≤i0.op∧i0.op≤6 then 3 else if i0.op=7∨i0.op=9 then 2 else 1)) {e:VFr} (he:rdE 59 e):
  gC C rdC3 [] (rdF s ws a e) (rdH ⟨op,r,b,p,0,0,0⟩) (RdP C s):=by
 change gC C (.seq (AC.l rdC3) rdC4) _ _ _ _
 refine rd_b3 w (n+1) hC he s ws ⟨op,r,b,p,0,0,0⟩ a hwl hx (by omega) hop (fun hc z hz=>?_) (fun hc=>?_)
 ·refine rd_t4 w n hC h0 s ws hws hwl hx op hop r b p z (a+1) (by omega) (fun i0 h1 h2=>?_) (.inl rfl)
  obtain ⟨e1,e2,e3,e4,e6⟩:=hi i0 h1 h2
  obtain ⟨f0,f1,f2,f3,f4,f5,f6,f7⟩:=ws_facts h1
  obtain ⟨g0,g1,g2,g3,g4,g5⟩:=insP_rest0 h1
  simp only at hc
  refine ⟨e1,e2,e3,e4,hz (1 - i0.bed) i0.to (by omega) (by omega) (by omega) ?_,?_⟩
  ·rw[hws,h2]
   by_cases k6:i0.op=6
   ·have:a=3:=by rw[e6,if_pos (by omega)]
    rw[this];exact (f3 k6).2.1
   ·have:a=2:=by rw[e6,if_neg (by omega),if_pos (by omega)]
    rw[this];exact (f4 (by omega)).2.2
  ·split at e6<;>(repeat' split at e6)<;>(repeat' split)<;>omega
 ·refine rd_t4 w n hC h0 s ws hws hwl hx op hop r b p 0 a (by omega) (fun i0 h1 h2=>?_) (.inr rfl)
  obtain ⟨e1,e2,e3,e4,e6⟩:=hi i0 h1 h2
  obtain ⟨f0,f1,f2,f3,f4,f5,f6,f7⟩:=ws_facts h1
  obtain ⟨g0,g1,g2,g3,g4,g5⟩:=insP_rest0 h1
  simp only at hc
  have hop1:=h1.op_lt
  have h67:i0.op ≠ 6∧i0.op ≠ 7:=by
   refine ⟨fun k=>hc ⟨by omega,?_⟩,fun k=>hc ⟨by omega,?_⟩⟩
   ·have:a=3:=by rw[e6,if_pos (by omega)]
    rw[hws,h2]
    have:=(f3 k).1;omega
   ·have:a=2:=by rw[e6,if_neg (by omega),if_pos (by omega)]
    rw[hws,h2]
    have:=(f4 k).1;omega
  refine ⟨e1,e2,e3,e4,(g2 h67).symm,?_⟩
  split at e6<;>(repeat' split at e6)<;>(repeat' split)<;>omega
theorem rd_t2 {C:Ctx} (hC:C.E=EN w (n+4)) (h0:C.w0.nx=0) (s:List UInt8) (ws:List (List UInt8)) (hws:ws=words 32 s) (hwl:ws.length≤1000) (hx:∀ x ∈ ws,x.length≤1000000) (op:Nat) (hop:op<10) (r:Bool) (a:Nat) (ha:a≤2)
  (hi:∀ i0,InsP i0→s=textI i0→op=i0.op∧r=i0.right∧a=(if 3≤i0.op∧i0.op≤6 then 2 else 1)) {e:VFr} (he:rdE 40 e):
  gC C rdC2 [] (rdF s ws a e) (rdH ⟨op,r,0,0,0,0,0⟩) (RdP C s):=by
 change gC C (.seq (AC.l rdC2) rdC3) _ _ _ _
 refine rd_b2 w (n+1) hC he s ws ⟨op,r,0,0,0,0,0⟩ a hwl hx (by omega) hop (fun hc b z hz=>?_) (fun hc=>?_)
 ·refine rd_t3 w n hC h0 s ws hws hwl hx op hop r b z (a+1) (by omega) (fun i0 h1 h2=>?_) (.inl rfl)
  obtain ⟨e1,e2,e6⟩:=hi i0 h1 h2
  obtain ⟨f0,f1,f2,f3,f4,f5,f6,f7⟩:=ws_facts h1
  obtain ⟨g0,g1,g2,g3,g4,g5⟩:=insP_rest0 h1
  have hop1:=h1.op_lt
  simp only at hc
  obtain ⟨z1,z2⟩:=hz i0.bed i0.pos (by omega) (by omega) (by omega) (by
   rw[hws,h2]
   by_cases k6:3≤i0.op∧i0.op≤6
   ·have:a=2:=by rw[e6,if_pos (by omega)]
    rw[this];exact (f1 k6).2.2
   have:a=1:=by rw[e6,if_neg (by omega)]
   rw[this]
   by_cases k7:i0.op=7
   ·exact (f4 k7).2.1
   ·exact (f5 (by omega)).2)
  refine ⟨e1,e2,z1,z2,?_⟩
  split at e6<;>(repeat' split)<;>omega
 ·refine rd_t3 w n hC h0 s ws hws hwl hx op hop r 0 0 a (by omega) (fun i0 h1 h2=>?_) (.inr rfl)
  obtain ⟨e1,e2,e6⟩:=hi i0 h1 h2
  obtain ⟨f0,f1,f2,f3,f4,f5,f6,f7⟩:=ws_facts h1
  obtain ⟨g0,g1,g2,g3,g4,g5⟩:=insP_rest0 h1
  have hop1:=h1.op_lt
  simp only at hc
  have k:i0.op≤2∨i0.op=8:=by
   by_cases k:i0.op≤2∨i0.op=8
   ·exact k
   exfalso
   refine hc ⟨by omega,by omega,?_⟩
   rw[hws,h2]
   by_cases k6:3≤i0.op∧i0.op≤6
   ·have:a=2:=by rw[e6,if_pos (by omega)]
    have:=(f1 k6).1;omega
   have:a=1:=by rw[e6,if_neg (by omega)]
   by_cases k7:i0.op=7
   ·have:=(f4 k7).1;omega
   ·have:=(f5 (by omega)).1;omega
  refine ⟨e1,e2,(g1 k).1.symm,(g1 k).2.symm,?_⟩
  split at e6<;>(repeat' split)<;>omega
theorem rd_t1 {C:Ctx} (hC:C.E=EN w (n+4)) (h0:C.w0.nx=0) (s:List UInt8) (ws:List (List UInt8)) (hws:ws=words 32 s) (hwl:ws.length≤1000) (hx:∀ x ∈ ws,x.length≤1000000) (op:Nat) (hop:op<10)
  (hi:∀ i0,InsP i0→s=textI i0→op=i0.op):
  gC C rdC1 [] (rdF s ws 1 []) (rdH ⟨op,false,0,0,0,0,0⟩) (RdP C s):=by
 change gC C (.seq (AC.l rdC1) rdC2) _ _ _ _
 refine rd_b1 s ws ⟨op,false,0,0,0,0,0⟩ hwl hop (fun hc=>?_) (fun hc=>?_)
 ·refine rd_t2 w n hC h0 s ws hws hwl hx op hop _ 2 (by omega) (fun i0 h1 h2=>?_) (.inl rfl)
  have e1:=hi i0 h1 h2
  obtain ⟨f0,f1,f2,f3,f4,f5,f6,f7⟩:=ws_facts h1
  simp only at hc
  refine ⟨e1,?_,by rw[if_pos (by omega)]⟩
  rw[hws,h2,(f1 (by omega)).2.1]
  cases i0.right<;>rfl
 ·refine rd_t2 w n hC h0 s ws hws hwl hx op hop _ 1 (by omega) (fun i0 h1 h2=>?_) (.inr rfl)
  have e1:=hi i0 h1 h2
  obtain ⟨f0,f1,f2,f3,f4,f5,f6,f7⟩:=ws_facts h1
  simp only at hc
  have k:¬ (3≤i0.op∧i0.op≤6):=fun k=>hc ⟨by omega,by omega,by rw[hws,h2];have:=(f1 k).1;omega⟩
  exact ⟨e1,((insP_rest0 h1).1 k).symm,by rw[if_neg k]⟩
end
section
variable (w:World) (n:Nat)
theorem rd_loop {C:Ctx} (hC:C.E=EN w (n+4)) (h0:C.w0.nx=0) (s:List UInt8) (ws:List (List UInt8)) (wd:List UInt8) (hwl:0<ws.length) (hwl2:ws.length≤1000) (hwd:ws[0]! =wd) (hwdl:wd.length≤1000000) {K:List KF} {P:VPost}
  (hgo:∀ fr,fr= [(0,strV s),(2,.ptr 0 0),(4,strs 2 ws),(5,.ptr 1 0),(6,.sc (.int .u8 10))]∨fr= [(0,strV s),(2,.ptr 0 0),(4,strs 2 ws),(5,.ptr 1 0),(6,.sc (.int .u8 10)),(17,.sc (.bool false))]→gK C K (.exit 0) fr (rdH ⟨opN wd 10,false,0,0,0,0,0⟩) P) {fr0:VFr} {st0:VSt}
  (hst:Weak C fr0 st0 [(0,strV s),(2,.ptr 0 0),(4,strs 2 ws),(5,.ptr 1 0),(6,.sc (.int .u8 1))] (rdH ⟨opN wd 1,false,0,0,0,0,0⟩)):
  gL C [0,2,4,5,6] c11l0 K fr0 st0 P:=by
 have hrn:C.E.rounds=many:=by rw[hC,callP_rounds]
 have hwm:(ws.map sD).length=ws.length:=by rw[List.length_map]
 have t1:ws[Int.toNat 0]! =wd:=hwd
 refine g_while (fun m fr st=>∃ k:Nat,1≤k∧k≤10∧m=10 - k∧fr= [(0,strV s),(2,.ptr 0 0),(4,strs 2 ws),(5,.ptr 1 0),(6,.sc (.int .u8 k))]∧st=rdH ⟨opN wd k,false,0,0,0,0,0⟩) 9 ?_ ⟨_,_,hst,1,by omega,by omega,by omega,rfl,rfl⟩ ?_
 ·rw[hrn];unfold many;omega
 rintro m fr st ⟨k,hk1,hk2,rfl,rfl,rfl⟩
 by_cases hk:k=10
 ·subst hk
  have hgo:=fun fr hfr=>hgo fr hfr
  simp (disch:=first|omega|assumption|exact bd (by with_unfolding_all rfl)|exact Or.inl rfl|(simp only[VVlen]<;>omega)|fail) only[O1,WA,slotsL,opdsA,Nat.reduceEqDiff,Nat.reduceLT,Nat.reduceAdd,Nat.reduceBEq,Int.reduceAdd,Int.reduceSub,Int.reduceLT,Int.reduceLE,Int.reduceEq,Int.reduceNeg,↓reduceIte,reduceCtorEq,List.replicate,c11l0]
  all_goals try (exfalso;omega)
  exact hgo _ (.inr rfl)
 ·have hn:=(rnames_p w (n+3) k (by omega)).of hC rfl
  have hnl:=nameI_len5 k (by omega)
  have hwr:IntKind.u8.wrap ((k:Int)+1)=((k+1:Nat):Int):=by rw[wrap_u8 _ (by omega) (by omega)];omega
  have hdone:∀ (o:Nat) (fr:VFr) (st:VSt),opN wd (k+1)=o→Weak C fr st [(0,strV s),(2,.ptr 0 0),(4,strs 2 ws),(5,.ptr 1 0),(6,.sc (.int .u8 (k+1:Nat)))] (rdH ⟨o,false,0,0,0,0,0⟩)→
    ∃ m' fr' st',m'<10 - k∧Weak C fr st fr' st'∧∃ k:Nat,1≤k∧k≤10∧m'=10 - k∧fr'= [(0,strV s),(2,.ptr 0 0),(4,strs 2 ws),(5,.ptr 1 0),(6,.sc (.int .u8 k))]∧st'=rdH ⟨opN wd k,false,0,0,0,0,0⟩:=fun o fr st ho hw=>by
   subst ho
   exact ⟨10 - (k+1),_,_,by omega,hw,k+1,by omega,by omega,rfl,rfl,rfl⟩
  by_cases he:nameI k=wd
  ·have ho:opN wd (k+1)=k:=by show (if 0<k∧nameI k=wd then k else opN wd k)=k;rw[if_pos ⟨by omega,he⟩]
   simp (disch:=first|omega|assumption|exact bd (by with_unfolding_all rfl)|exact Or.inl rfl|(simp only[VVlen]<;>omega)|fail) only[O1,WA,slotsL,opdsA,Nat.reduceEqDiff,Nat.reduceLT,Nat.reduceAdd,Nat.reduceBEq,Int.reduceAdd,Int.reduceSub,Int.reduceLT,Int.reduceLE,Int.reduceEq,Int.reduceNeg,↓reduceIte,reduceCtorEq,List.replicate,c11l0]
   all_goals try (exfalso;omega)
   refine call0_of (hn _ rfl) ?_
   simp (disch:=first|omega|assumption|exact bd (by with_unfolding_all rfl)|exact Or.inl rfl|(simp only[VVlen]<;>omega)|fail) only[O1,WA,slotsL,opdsA,Nat.reduceEqDiff,Nat.reduceLT,Nat.reduceAdd,Nat.reduceBEq,Int.reduceAdd,Int.reduceSub,Int.reduceLT,Int.reduceLE,Int.reduceEq,Int.reduceNeg,↓reduceIte,reduceCtorEq,List.replicate,sD_dv,t1,he,hwr]
   all_goals try (exfalso;omega)
   refine hdone k _ _ ho (weak_to [(1,1),(0,0)] 2 h0 rfl rfl rfl rfl)
  ·have ho:opN wd (k+1)=opN wd k:=by show (if 0<k∧nameI k=wd then k else opN wd k)=_;rw[if_neg (fun h=>he h.2)]
   generalize nameI k=nm at*
   simp (disch:=first|omega|assumption|exact bd (by with_unfolding_all rfl)|exact Or.inl rfl|(simp only[VVlen]<;>omega)|fail) only[O1,WA,slotsL,opdsA,Nat.reduceEqDiff,Nat.reduceLT,Nat.reduceAdd,Nat.reduceBEq,Int.reduceAdd,Int.reduceSub,Int.reduceLT,Int.reduceLE,Int.reduceEq,Int.reduceNeg,↓reduceIte,reduceCtorEq,List.replicate,c11l0]
   all_goals try (exfalso;omega)
   refine call0_of (hn _ rfl) ?_
   simp (disch:=first|omega|assumption|exact bd (by with_unfolding_all rfl)|exact Or.inl rfl|(simp only[VVlen]<;>omega)|fail) only[O1,WA,slotsL,opdsA,Nat.reduceEqDiff,Nat.reduceLT,Nat.reduceAdd,Nat.reduceBEq,Int.reduceAdd,Int.reduceSub,Int.reduceLT,Int.reduceLE,Int.reduceEq,Int.reduceNeg,↓reduceIte,reduceCtorEq,List.replicate,sD_dv,t1,he,mk_inj,hwr]
   all_goals try (exfalso;omega)
   refine hdone _ _ _ ho (weak_to [(1,1),(0,0)] 2 h0 rfl rfl rfl rfl)
theorem rread_p (s:List UInt8) (hs:s.length≤1000000):VSpec (EN w (n+5)) 11 [strV s] (resI (readO s)) ⟨[],0,0⟩:=by
 refine vspec_flat rfl rfl (fun _ _=>rfl) (Nat.le_of_ble_eq_true rfl) (oldVals w) (by cases readO s<;>rfl) fun C hC h0=>?_
 by_cases hl:s.length≤40
 case neg=>
  rw[readO_none fun i0 h1 h2=>by have:=textI_len40 h1;rw[h2] at this;omega]
  have hsz:=mk_size s
  have hl2:(40:Int)<s.length:=by omega
  simp (disch:=first|omega|assumption|exact bd (by with_unfolding_all rfl)|exact Or.inl rfl|(simp only[VVlen]<;>omega)|fail) only[O1,WA,slotsL,opdsA,Nat.reduceEqDiff,Nat.reduceLT,Nat.reduceAdd,Nat.reduceBEq,Int.reduceAdd,Int.reduceSub,Int.reduceLT,Int.reduceLE,Int.reduceEq,Int.reduceNeg,↓reduceIte,reduceCtorEq,List.replicate,c11,hsz]
  all_goals try (exfalso;omega)
  exact weak_flat rfl h0 rfl
 have hcut:VSpec (EN w (n+4)) 32 [strV s,.sc (.int .u8 32)] (strs 2 (words 32 s)) ⟨[],0,0⟩:=cutF_p w (n+3) s 32 hs
 obtain ⟨hn1,hn2⟩:=words_len (c:=32) s.length (s:=s) (Nat.le_refl _)
 have hpos:0<(words 32 s).length:=List.length_pos_iff.2 (words_ne 32 s)
 obtain ⟨T,hT⟩:∃ T,T=rdC1:=⟨_,rfl⟩
 have hc:c11.code= .seq (AC.l c11.code) (.seq (AC.l (AC.r c11.code)) (.seq (AC.l (AC.r (AC.r c11.code))) (.seq (AC.l (AC.r (AC.r (AC.r c11.code)))) (.seq (AC.l (AC.r (AC.r (AC.r (AC.r c11.code))))) (.seq (AC.l (AC.r (AC.r (AC.r (AC.r (AC.r c11.code)))))) T))))):=by rw[hT];rfl
 rw[hc]
 have hx:∀ x ∈ words 32 s,x.length≤1000000:=fun x hx=>by have:=hn2 x hx;omega
 have ht1:=rd_t1 w n hC h0 s (words 32 s) rfl (by omega) hx (opN (words 32 s)[0]! 10) (opN_10 _) (fun i0 h1 h2=>by
  rw[h2,(ws_facts h1).1]
  exact opN_name _ h1.op_lt.2 h1.op_lt.1)
 rw[← hT] at ht1
 have hwd:(words 32 s)[0]!.length≤1000000:=by
  rw[getElem!_pos _ 0 hpos]
  exact hx _ (List.getElem_mem _)
 generalize words 32 s=ws at*
 generalize hw0:ws[0]! =wd at*
 have hsz:=mk_size s
 have hl2:¬ ((40:Int)<s.length):=by omega
 simp (disch:=first|omega|assumption|exact bd (by with_unfolding_all rfl)|exact Or.inl rfl|(simp only[VVlen]<;>omega)|fail) only[O1,WA,slotsL,opdsA,Nat.reduceEqDiff,Nat.reduceLT,Nat.reduceAdd,Nat.reduceBEq,Int.reduceAdd,Int.reduceSub,Int.reduceLT,Int.reduceLE,Int.reduceEq,Int.reduceNeg,↓reduceIte,reduceCtorEq,List.replicate,AC.l,AC.r,c11,hsz]
 all_goals try (exfalso;omega)
 refine callV_fin (by rw[hC];exact hcut) rfl rfl (fun _=>rfl) ?_
 simp (disch:=first|omega|assumption|exact bd (by with_unfolding_all rfl)|exact Or.inl rfl|(simp only[VVlen]<;>omega)|fail) only[O1,WA,slotsL,opdsA,Nat.reduceEqDiff,Nat.reduceLT,Nat.reduceAdd,Nat.reduceBEq,Int.reduceAdd,Int.reduceSub,Int.reduceLT,Int.reduceLE,Int.reduceEq,Int.reduceNeg,↓reduceIte,reduceCtorEq,List.replicate]
 refine rd_loop w n hC h0 s ws wd hpos (by omega) hw0 hwd (fun fr hfr=>?_) (weak_to [(1,1),(0,0)] 2 h0 rfl rfl rfl rfl)
 rcases hfr with rfl|rfl
 ·simp (disch:=first|omega|assumption|exact bd (by with_unfolding_all rfl)|exact Or.inl rfl|(simp only[VVlen]<;>omega)|fail) only[O1,WA,slotsL,opdsA,Nat.reduceEqDiff,Nat.reduceLT,Nat.reduceAdd,Nat.reduceBEq,Int.reduceAdd,Int.reduceSub,Int.reduceLT,Int.reduceLE,Int.reduceEq,Int.reduceNeg,↓reduceIte,reduceCtorEq,List.replicate]
  exact ht1
 ·simp (disch:=first|omega|assumption|exact bd (by with_unfolding_all rfl)|exact Or.inl rfl|(simp only[VVlen]<;>omega)|fail) only[O1,WA,slotsL,opdsA,Nat.reduceEqDiff,Nat.reduceLT,Nat.reduceAdd,Nat.reduceBEq,Int.reduceAdd,Int.reduceSub,Int.reduceLT,Int.reduceLE,Int.reduceEq,Int.reduceNeg,↓reduceIte,reduceCtorEq,List.replicate]
  exact ht1
end

instance:Inhabited Ins:=⟨ins0⟩
def insD (L:List Ins):List D:=L.flatMap fun a=>(insC a).map D.sc
theorem insD_len (L:List Ins):(insD L).length=L.length*7:=by
 induction L with
 |nil=>rfl
 |cons p L ih=>
  have e:insD (p::L)=(insC p).map D.sc++insD L:=by simp[insD]
  rw[e,List.length_append,ih];simp[insC];omega
theorem insD_agg (L:List Ins) (k:Nat) (hk:k<L.length):dload (insD L) (k*7) (some 7)=some (insV L[k]!):=by
 have:=dload_flat (fun p:Ins=>(insC p).map D.sc) 7 L (fun _=>rfl) (by decide) k hk
 unfold insD
 rw[this]
 rfl
def tx (L:List Ins):List UInt8:=(L.map fun i=>textI i++ [10]).flatten
noncomputable def textsF (L:List Ins):List UInt8 × Int:=if 2000<L.length then ([],4) else if L.all insOK=true then (if 40000<(tx L).length then ([],4) else (tx L,0)) else ([],8)
theorem tx_take (L:List Ins) (k:Nat) (hk:k<L.length):tx (L.take (k+1))=tx (L.take k)++(textI L[k]! ++ [10]):=by
 unfold tx
 rw[List.take_succ_eq_append_getElem hk,List.map_append,List.flatten_append,getElem!_pos _ k hk]
 simp
theorem all_take {L:List Ins} {k:Nat} (hk:k<L.length) (h:(L.take k).all insOK=true) (h2:insOK L[k]! =true):(L.take (k+1)).all insOK=true:=by
 rw[List.take_succ_eq_append_getElem hk,List.all_append,h]
 rw[getElem!_pos _ k hk] at h2
 simp[h2]
theorem all_bad {L:List Ins} {k:Nat} (hk:k<L.length) (h2:insOK L[k]! =false):¬ L.all insOK=true:=fun h=>by
 rw[getElem!_pos _ k hk] at h2
 have:=List.all_eq_true.1 h _ (List.getElem_mem hk)
 rw[this] at h2;cases h2
theorem tx_len {L:List Ins} (h:L.all insOK=true):(tx L).length≤L.length*41:=by
 induction L with
 |nil=>simp[tx]
 |cons i L ih=>
  have e:tx (i::L)=textI i++ [10]++tx L:=by simp[tx]
  simp only[List.all_cons,Bool.and_eq_true] at h
  have h1:=textI_len40 (insOK_iff.1 h.1)
  have h2:=ih h.2
  rw[e,List.length_append,List.length_append,List.length_cons]
  simp
  omega
section
variable (w:World) (n:Nat)
theorem ctext_p (s:Nat) (L:List Ins) (hL:L.length≤140737488351232):VSpec (EN w (n+5)) 13 [.sl s L.length (insD L)] (.tup [strV (textsF L).1,.sc (.int .i64 (textsF L).2)]) ⟨[],0,0⟩:=by
 refine vspec_flat rfl rfl (fun _ _=>rfl) (Nat.le_of_ble_eq_true rfl) (oldVals w) rfl fun C hC h0=>?_
 have hrn:C.E.rounds=many:=by rw[hC,callP_rounds]
 have hil:=insD_len L
 have nb:∀ a b:Nat,Nat.beq a b=false→a ≠ b:=fun a b=>Nat.ne_of_beq_eq_false
 unfold textsF
 by_cases h2:2000<L.length
 ·rw[if_pos h2]
  simp (disch:=first|omega|assumption|exact bd (by with_unfolding_all rfl)|exact Or.inl rfl|(simp only[VVlen]<;>omega)|fail) only[O1,WA,slotsL,opdsA,Nat.reduceEqDiff,Nat.reduceLT,Nat.reduceAdd,Nat.reduceBEq,Int.reduceAdd,Int.reduceSub,Int.reduceLT,Int.reduceLE,Int.reduceEq,Int.reduceNeg,↓reduceIte,reduceCtorEq,List.replicate,c13]
  all_goals try (exfalso;omega)
  exact weak_flat rfl h0 rfl
 rw[if_neg h2]
 simp (disch:=first|omega|assumption|exact bd (by with_unfolding_all rfl)|exact Or.inl rfl|(simp only[VVlen]<;>omega)|fail) only[O1,WA,slotsL,opdsA,Nat.reduceEqDiff,Nat.reduceLT,Nat.reduceAdd,Nat.reduceBEq,Int.reduceAdd,Int.reduceSub,Int.reduceLT,Int.reduceLE,Int.reduceEq,Int.reduceNeg,↓reduceIte,reduceCtorEq,List.replicate,c13]
 all_goals try (exfalso;omega)
 refine g_while (fun m fr st=>∃ (k:Nat) (p:V),m=L.length - k∧k≤L.length∧selfP 0 p∧(L.take k).all insOK=true∧fr= [(4,.ptr 0 0),(12,.sl s L.length (insD L)),(13,.sc (.int .i64 L.length)),(14,.sc (.int .i64 k))]∧
  st=⟨[(1,.gro 5 1 false (strD ⟨(tx (L.take k)).toArray⟩)),(0,.box 77 1 [p,.gr 2 1 (tx (L.take k)).length])],2,0⟩) L.length ?_ ⟨_,_,weak_nilCell (l:= [.sc (.pointer none),.sc (.slice none 0 0)]) 0 77 1 1 5 1 rfl rfl (Nat.ne_of_beq_eq_false rfl),0,.sc (.pointer none),by omega,Nat.zero_le _,.inl rfl,rfl,rfl,rfl⟩ ?_
 ·rw[hrn];unfold many;omega
 rintro m fr st ⟨k,p,rfl,hk,hp,hall,rfl,rfl⟩
 have htl:=tx_len hall
 have htk:(L.take k).length=k:=by rw[List.length_take];omega
 rw[htk] at htl
 by_cases hlt:k<L.length
 case neg=>
  have:k=L.length:=by omega
  subst this
  rw[List.take_length] at hall htl ⊢
  rw[if_pos hall]
  generalize tx L=F at*
  have hFz:=mk_size F
  have hbl:=fun (st:VSt) (h:aget st.own 0=some (.box 77 1 [p,.gr 2 1 F.length]))=>blen_p w (n+3) st 0 1 1 F.length p h (by omega)
  by_cases hb:40000<F.length
  ·rw[if_pos hb]
   simp (disch:=first|omega|assumption|exact bd (by with_unfolding_all rfl)|exact Or.inl rfl|(simp only[VVlen]<;>omega)|fail) only[O1,WA,slotsL,opdsA,Nat.reduceEqDiff,Nat.reduceLT,Nat.reduceAdd,Nat.reduceBEq,Int.reduceAdd,Int.reduceSub,Int.reduceLT,Int.reduceLE,Int.reduceEq,Int.reduceNeg,↓reduceIte,reduceCtorEq,List.replicate,c13l0]
   refine callV_flat (by rw[hC];refine hbl _ ?_;rfl) ?_
   simp (disch:=first|omega|assumption|exact bd (by with_unfolding_all rfl)|exact Or.inl rfl|(simp only[VVlen]<;>omega)|fail) only[O1,WA,slotsL,opdsA,Nat.reduceEqDiff,Nat.reduceLT,Nat.reduceAdd,Nat.reduceBEq,Int.reduceAdd,Int.reduceSub,Int.reduceLT,Int.reduceLE,Int.reduceEq,Int.reduceNeg,↓reduceIte,reduceCtorEq,List.replicate]
   all_goals try (exfalso;omega)
   exact weak_flat rfl h0 rfl
  ·rw[if_neg hb]
   simp (disch:=first|omega|assumption|exact bd (by with_unfolding_all rfl)|exact Or.inl rfl|(simp only[VVlen]<;>omega)|fail) only[O1,WA,slotsL,opdsA,Nat.reduceEqDiff,Nat.reduceLT,Nat.reduceAdd,Nat.reduceBEq,Int.reduceAdd,Int.reduceSub,Int.reduceLT,Int.reduceLE,Int.reduceEq,Int.reduceNeg,↓reduceIte,reduceCtorEq,List.replicate,c13l0]
   refine callV_flat (by rw[hC];refine hbl _ ?_;rfl) ?_
   simp (disch:=first|omega|assumption|exact bd (by with_unfolding_all rfl)|exact Or.inl rfl|(simp only[VVlen]<;>omega)|fail) only[O1,WA,slotsL,opdsA,Nat.reduceEqDiff,Nat.reduceLT,Nat.reduceAdd,Nat.reduceBEq,Int.reduceAdd,Int.reduceSub,Int.reduceLT,Int.reduceLE,Int.reduceEq,Int.reduceNeg,↓reduceIte,reduceCtorEq,List.replicate]
   all_goals try (exfalso;omega)
   refine string_w w (n+3) hC 0 1 p ⟨F.toArray⟩ (by rw[hFz];rfl) rfl (Nat.zero_le _) (Nat.zero_le _) (by omega) fun st' hst=>?_
   repeat' (first|(simp (disch:=first|omega|assumption|exact bd (by with_unfolding_all rfl)|exact Or.inl rfl|(simp only[VVlen]<;>omega)|fail) only[O1,WA,slotsL,opdsA,Nat.reduceEqDiff,Nat.reduceLT,Nat.reduceAdd,Nat.reduceBEq,Int.reduceAdd,Int.reduceSub,Int.reduceLT,Int.reduceLE,Int.reduceEq,Int.reduceNeg,↓reduceIte,reduceCtorEq,List.replicate])|apply gC_drawW|((first|apply gI_dec|apply gG_dec|apply gPG_dec|apply gI_var|apply gG_var|apply gPG_var)<;>intro _))
   exact weak_flat rfl h0 hst
 have hag:=insD_agg L k hlt
 have hts:=tx_take L k hlt
 have hb1:=fun h=>all_take hlt hall h
 have hb2:=fun h=>all_bad hlt h
 have hln:=cLine_p w n L[k]!
 generalize hX:L[k]! =X at*
 by_cases hv:insOK X=true
 ·have hb3:=hb1 hv
  have hX4:=textI_len40 (insOK_iff.1 hv)
  have e1:lineF X=(textI X,0):=by unfold lineF;rw[if_pos hv]
  rw[e1] at hln
  generalize textI X=T at*
  generalize tx (L.take k)=F at*
  obtain ⟨xo,xr,xb,xp,xt,xc,xk⟩:=X
  unfold insV at hag hln
  simp (disch:=first|omega|assumption|exact bd (by with_unfolding_all rfl)|exact Or.inl rfl|(simp only[VVlen]<;>omega)|fail) only[O1,WA,slotsL,opdsA,Nat.reduceEqDiff,Nat.reduceLT,Nat.reduceAdd,Nat.reduceBEq,Int.reduceAdd,Int.reduceSub,Int.reduceLT,Int.reduceLE,Int.reduceEq,Int.reduceNeg,↓reduceIte,reduceCtorEq,List.replicate,c13l0,hag]
  all_goals try (exfalso;omega)
  refine callV_flat (by rw[hC];exact hln.flat rfl rfl) ?_
  simp (disch:=first|omega|assumption|exact bd (by with_unfolding_all rfl)|exact Or.inl rfl|(simp only[VVlen]<;>omega)|fail) only[O1,WA,slotsL,opdsA,Nat.reduceEqDiff,Nat.reduceLT,Nat.reduceAdd,Nat.reduceBEq,Int.reduceAdd,Int.reduceSub,Int.reduceLT,Int.reduceLE,Int.reduceEq,Int.reduceNeg,↓reduceIte,reduceCtorEq,List.replicate,cat_l]
  refine wStr_w w (n+1) hC 0 1 p F (T++ [10]) rfl rfl hp (Nat.zero_le _) (Nat.zero_le _) (by decide) (nb _ _ rfl) (by simp;omega) ?_
  simp (disch:=first|omega|assumption|exact bd (by with_unfolding_all rfl)|exact Or.inl rfl|(simp only[VVlen]<;>omega)|fail) only[O1,WA,slotsL,opdsA,Nat.reduceEqDiff,Nat.reduceLT,Nat.reduceAdd,Nat.reduceBEq,Int.reduceAdd,Int.reduceSub,Int.reduceLT,Int.reduceLE,Int.reduceEq,Int.reduceNeg,↓reduceIte,reduceCtorEq,List.replicate]
  refine ⟨L.length - (k+1),_,_,by omega,weak_to [(3,1),(0,0)] 2 h0 rfl rfl rfl rfl,k+1,.ptr 0 0,rfl,by omega,.inr rfl,hb3,rfl,?_⟩
  rw[hts]
  simp only[List.length_append]
  rfl
 ·have hb2:=hb2 (by simpa using hv)
  rw[if_neg hb2]
  have e1:lineF X=([],8):=by unfold lineF;rw[if_neg hv]
  rw[e1] at hln
  obtain ⟨xo,xr,xb,xp,xt,xc,xk⟩:=X
  unfold insV at hag hln
  simp (disch:=first|omega|assumption|exact bd (by with_unfolding_all rfl)|exact Or.inl rfl|(simp only[VVlen]<;>omega)|fail) only[O1,WA,slotsL,opdsA,Nat.reduceEqDiff,Nat.reduceLT,Nat.reduceAdd,Nat.reduceBEq,Int.reduceAdd,Int.reduceSub,Int.reduceLT,Int.reduceLE,Int.reduceEq,Int.reduceNeg,↓reduceIte,reduceCtorEq,List.replicate,c13l0,hag]
  all_goals try (exfalso;omega)
  refine callV_flat (by rw[hC];exact hln.flat rfl rfl) ?_
  simp (disch:=first|omega|assumption|exact bd (by with_unfolding_all rfl)|exact Or.inl rfl|(simp only[VVlen]<;>omega)|fail) only[O1,WA,slotsL,opdsA,Nat.reduceEqDiff,Nat.reduceLT,Nat.reduceAdd,Nat.reduceBEq,Int.reduceAdd,Int.reduceSub,Int.reduceLT,Int.reduceLE,Int.reduceEq,Int.reduceNeg,↓reduceIte,reduceCtorEq,List.replicate]
  exact weak_flat rfl h0 rfl
end
end Go.Proofs.YtbefpfbidgfipaaDoor
namespace Go.Proofs.YtbefpfbidgfipaaDoor
open Go Go.Itp
set_option maxRecDepth 100000
set_option maxHeartbeats 4000000
set_option linter.unusedSimpArgs false
set_option linter.unusedVariables false
section
variable (w:World) (n:Nat)
theorem rtext_p (s:Nat) (L:List Ins) (hL:L.length≤140737488351232):VSpec (EN w (n+5)) 14 [.sl s L.length (insD L)] (.tup [strV (textsF L).1,.sc (.int .i64 (textsF L).2)]) ⟨[],0,0⟩:=by
 refine vspec_flat rfl rfl (fun _ _=>rfl) (Nat.le_of_ble_eq_true rfl) (oldVals w) rfl fun C hC h0=>?_
 have hrn:C.E.rounds=many:=by rw[hC,callP_rounds]
 have hil:=insD_len L
 unfold textsF
 by_cases h2:2000<L.length
 ·rw[if_pos h2]
  simp (disch:=first|omega|assumption|exact bd (by with_unfolding_all rfl)|exact Or.inl rfl|(simp only[VVlen]<;>omega)|fail) only[O1,WA,slotsL,opdsA,Nat.reduceEqDiff,Nat.reduceLT,Nat.reduceAdd,Nat.reduceBEq,Int.reduceAdd,Int.reduceSub,Int.reduceLT,Int.reduceLE,Int.reduceEq,Int.reduceNeg,↓reduceIte,reduceCtorEq,List.replicate,c14]
  all_goals try (exfalso;omega)
  exact weak_flat rfl h0 rfl
 rw[if_neg h2]
 simp (disch:=first|omega|assumption|exact bd (by with_unfolding_all rfl)|exact Or.inl rfl|(simp only[VVlen]<;>omega)|fail) only[O1,WA,slotsL,opdsA,Nat.reduceEqDiff,Nat.reduceLT,Nat.reduceAdd,Nat.reduceBEq,Int.reduceAdd,Int.reduceSub,Int.reduceLT,Int.reduceLE,Int.reduceEq,Int.reduceNeg,↓reduceIte,reduceCtorEq,List.replicate,c14]
 all_goals try (exfalso;omega)
 refine g_while (fun m fr st=>∃ (k:Nat),m=L.length - k∧k≤L.length∧(L.take k).all insOK=true∧fr= [(0,.sl s L.length (insD L)),(4,strV (tx (L.take k))),(5,.sc (.int .i64 k))]∧st=⟨[],0,0⟩) L.length ?_ ⟨_,_,.refl _ _,0,by omega,Nat.zero_le _,rfl,rfl,rfl⟩ ?_
 ·rw[hrn];unfold many;omega
 rintro m fr st ⟨k,rfl,hk,hall,rfl,rfl⟩
 have htl:=tx_len hall
 have htk:(L.take k).length=k:=by rw[List.length_take];omega
 rw[htk] at htl
 by_cases hlt:k<L.length
 case neg=>
  have:k=L.length:=by omega
  subst this
  rw[List.take_length] at hall htl ⊢
  rw[if_pos hall]
  generalize tx L=F at*
  have hFz:=mk_size F
  by_cases hb:40000<F.length
  ·rw[if_pos hb]
   simp (disch:=first|omega|assumption|exact bd (by with_unfolding_all rfl)|exact Or.inl rfl|(simp only[VVlen]<;>omega)|fail) only[O1,WA,slotsL,opdsA,Nat.reduceEqDiff,Nat.reduceLT,Nat.reduceAdd,Nat.reduceBEq,Int.reduceAdd,Int.reduceSub,Int.reduceLT,Int.reduceLE,Int.reduceEq,Int.reduceNeg,↓reduceIte,reduceCtorEq,List.replicate,c14l0,hFz]
   all_goals try (exfalso;omega)
   exact weak_flat rfl h0 rfl
  ·rw[if_neg hb]
   simp (disch:=first|omega|assumption|exact bd (by with_unfolding_all rfl)|exact Or.inl rfl|(simp only[VVlen]<;>omega)|fail) only[O1,WA,slotsL,opdsA,Nat.reduceEqDiff,Nat.reduceLT,Nat.reduceAdd,Nat.reduceBEq,Int.reduceAdd,Int.reduceSub,Int.reduceLT,Int.reduceLE,Int.reduceEq,Int.reduceNeg,↓reduceIte,reduceCtorEq,List.replicate,c14l0,hFz]
   all_goals try (exfalso;omega)
   exact weak_flat rfl h0 rfl
 have hag:=insD_agg L k hlt
 have hts:=tx_take L k hlt
 have hb1:=fun h=>all_take hlt hall h
 have hb2:=fun h=>all_bad hlt h
 have hri:=rinstr_p w (n+2) L[k]!
 have hwr:=fun h=>written_p w n L[k]! h
 generalize hX:L[k]! =X at*
 by_cases hv:insOK X=true
 ·have hb3:=hb1 hv
  have hwt:=hwr (insOK_iff.1 hv)
  have hX4:=textI_len40 (insOK_iff.1 hv)
  rw[if_pos hv] at hri
  generalize textI X=T at*
  generalize tx (L.take k)=F at*
  clear hb1 hb2 hwr
  obtain ⟨xo,xr,xb,xp,xt,xc,xk⟩:=X
  unfold insV at hag hri hwt
  simp (disch:=first|omega|assumption|exact bd (by with_unfolding_all rfl)|exact Or.inl rfl|(simp only[VVlen]<;>omega)|fail) only[O1,WA,slotsL,opdsA,Nat.reduceEqDiff,Nat.reduceLT,Nat.reduceAdd,Nat.reduceBEq,Int.reduceAdd,Int.reduceSub,Int.reduceLT,Int.reduceLE,Int.reduceEq,Int.reduceNeg,↓reduceIte,reduceCtorEq,List.replicate,c14l0,hag]
  all_goals try (exfalso;omega)
  refine callV_flat (by rw[hC];exact hri.flat rfl rfl) ?_
  simp (disch:=first|omega|assumption|exact bd (by with_unfolding_all rfl)|exact Or.inl rfl|(simp only[VVlen]<;>omega)|fail) only[O1,WA,slotsL,opdsA,Nat.reduceEqDiff,Nat.reduceLT,Nat.reduceAdd,Nat.reduceBEq,Int.reduceAdd,Int.reduceSub,Int.reduceLT,Int.reduceLE,Int.reduceEq,Int.reduceNeg,↓reduceIte,reduceCtorEq,List.replicate,hag]
  all_goals try (exfalso;omega)
  refine callV_flat (by rw[hC];exact hwt.flat rfl rfl) ?_
  simp (disch:=first|omega|assumption|exact bd (by with_unfolding_all rfl)|exact Or.inl rfl|(simp only[VVlen]<;>omega)|fail) only[O1,WA,slotsL,opdsA,Nat.reduceEqDiff,Nat.reduceLT,Nat.reduceAdd,Nat.reduceBEq,Int.reduceAdd,Int.reduceSub,Int.reduceLT,Int.reduceLE,Int.reduceEq,Int.reduceNeg,↓reduceIte,reduceCtorEq,List.replicate,cat_l,List.append_assoc]
  all_goals try (exfalso;omega)
  refine ⟨L.length - (k+1),_,_,by omega,.refl _ _,k+1,rfl,by omega,hb3,?_,rfl⟩
  rw[hts]
  rfl
 ·have hb3:=hb2 (by simpa using hv)
  rw[if_neg hb3]
  rw[if_neg hv] at hri
  clear hb1 hb2 hwr
  obtain ⟨xo,xr,xb,xp,xt,xc,xk⟩:=X
  unfold insV at hag hri
  simp (disch:=first|omega|assumption|exact bd (by with_unfolding_all rfl)|exact Or.inl rfl|(simp only[VVlen]<;>omega)|fail) only[O1,WA,slotsL,opdsA,Nat.reduceEqDiff,Nat.reduceLT,Nat.reduceAdd,Nat.reduceBEq,Int.reduceAdd,Int.reduceSub,Int.reduceLT,Int.reduceLE,Int.reduceEq,Int.reduceNeg,↓reduceIte,reduceCtorEq,List.replicate,c14l0,hag]
  all_goals try (exfalso;omega)
  refine callV_flat (by rw[hC];exact hri.flat rfl rfl) ?_
  simp (disch:=first|omega|assumption|exact bd (by with_unfolding_all rfl)|exact Or.inl rfl|(simp only[VVlen]<;>omega)|fail) only[O1,WA,slotsL,opdsA,Nat.reduceEqDiff,Nat.reduceLT,Nat.reduceAdd,Nat.reduceBEq,Int.reduceAdd,Int.reduceSub,Int.reduceLT,Int.reduceLE,Int.reduceEq,Int.reduceNeg,↓reduceIte,reduceCtorEq,List.replicate]
  exact weak_flat rfl h0 rfl
theorem rsame_p (s t:Nat) (L:List Ins) (hL:L.length≤140737488351232):VSpec (EN w (n+1)) 19 [.sl s L.length (insD L),.sl t L.length (insD L)] (.sc (.bool true)) ⟨[],0,0⟩:=by
 refine vspec_flat rfl rfl (fun _ _=>rfl) (Nat.le_of_ble_eq_true rfl) (oldVals w) rfl fun C hC h0=>?_
 have hrn:C.E.rounds=many:=by rw[hC,callP_rounds]
 have hil:=insD_len L
 simp (disch:=first|omega|assumption|exact bd (by with_unfolding_all rfl)|exact Or.inl rfl|(simp only[VVlen]<;>omega)|fail) only[O1,WA,slotsL,opdsA,Nat.reduceEqDiff,Nat.reduceLT,Nat.reduceAdd,Nat.reduceBEq,Int.reduceAdd,Int.reduceSub,Int.reduceLT,Int.reduceLE,Int.reduceEq,Int.reduceNeg,↓reduceIte,reduceCtorEq,List.replicate,c19]
 all_goals try (exfalso;omega)
 refine g_while (fun m fr st=>∃ (k:Nat),m=L.length - k∧k≤L.length∧fr= [(0,.sl s L.length (insD L)),(1,.sl t L.length (insD L)),(5,.sc (.int .i64 k))]∧st=⟨[],0,0⟩) L.length ?_ ⟨_,_,.refl _ _,0,by omega,Nat.zero_le _,rfl,rfl⟩ ?_
 ·rw[hrn];unfold many;omega
 rintro m fr st ⟨k,rfl,hk,rfl,rfl⟩
 by_cases hlt:k<L.length
 case neg=>
  simp (disch:=first|omega|assumption|exact bd (by with_unfolding_all rfl)|exact Or.inl rfl|(simp only[VVlen]<;>omega)|fail) only[O1,WA,slotsL,opdsA,Nat.reduceEqDiff,Nat.reduceLT,Nat.reduceAdd,Nat.reduceBEq,Int.reduceAdd,Int.reduceSub,Int.reduceLT,Int.reduceLE,Int.reduceEq,Int.reduceNeg,↓reduceIte,reduceCtorEq,List.replicate,c19l0]
  all_goals try (exfalso;omega)
  exact weak_flat rfl h0 rfl
 have hag:=insD_agg L k hlt
 generalize hX:L[k]! =X at*
 obtain ⟨xo,xr,xb,xp,xt,xc,xk⟩:=X
 unfold insV at hag
 simp (disch:=first|omega|assumption|exact bd (by with_unfolding_all rfl)|exact Or.inl rfl|(simp only[VVlen]<;>omega)|fail) only[O1,WA,slotsL,opdsA,Nat.reduceEqDiff,Nat.reduceLT,Nat.reduceAdd,Nat.reduceBEq,Int.reduceAdd,Int.reduceSub,Int.reduceLT,Int.reduceLE,Int.reduceEq,Int.reduceNeg,↓reduceIte,reduceCtorEq,List.replicate,c19l0,hag,eqCellV,eqCell,beq_self_eq_true,Bool.and_self,if_true]
 all_goals try (exfalso;omega)
 exact ⟨L.length - (k+1),_,_,by omega,.refl _ _,k+1,rfl,by omega,rfl,rfl⟩
theorem rlong_p (s:Nat) (L:List Ins) (hL:L.length≤140737488351232):VSpec (EN w (n+1)) 12 [.sl s L.length (insD L)] (.sc (.bool (decide (300<L.length∧L.length≤2000∨2100<L.length)))) ⟨[],0,0⟩:=by
 refine vspec_flat rfl rfl (fun _ _=>rfl) (Nat.le_of_ble_eq_true rfl) (oldVals w) rfl fun C hC h0=>?_
 have hil:=insD_len L
 by_cases h1:300<L.length
 ·by_cases h2:L.length≤2000
  ·rw[decide_eq_true (.inl ⟨h1,h2⟩)]
   simp (disch:=first|omega|assumption|exact bd (by with_unfolding_all rfl)|exact Or.inl rfl|(simp only[VVlen]<;>omega)|fail) only[O1,WA,slotsL,opdsA,Nat.reduceEqDiff,Nat.reduceLT,Nat.reduceAdd,Nat.reduceBEq,Int.reduceAdd,Int.reduceSub,Int.reduceLT,Int.reduceLE,Int.reduceEq,Int.reduceNeg,↓reduceIte,reduceCtorEq,List.replicate,c12]
   all_goals try (exfalso;omega)
   exact weak_flat rfl h0 rfl
  ·by_cases h3:2100<L.length
   ·rw[decide_eq_true (.inr h3)]
    simp (disch:=first|omega|assumption|exact bd (by with_unfolding_all rfl)|exact Or.inl rfl|(simp only[VVlen]<;>omega)|fail) only[O1,WA,slotsL,opdsA,Nat.reduceEqDiff,Nat.reduceLT,Nat.reduceAdd,Nat.reduceBEq,Int.reduceAdd,Int.reduceSub,Int.reduceLT,Int.reduceLE,Int.reduceEq,Int.reduceNeg,↓reduceIte,reduceCtorEq,List.replicate,c12]
    all_goals try (exfalso;omega)
    exact weak_flat rfl h0 rfl
   ·rw[decide_eq_false (by omega)]
    simp (disch:=first|omega|assumption|exact bd (by with_unfolding_all rfl)|exact Or.inl rfl|(simp only[VVlen]<;>omega)|fail) only[O1,WA,slotsL,opdsA,Nat.reduceEqDiff,Nat.reduceLT,Nat.reduceAdd,Nat.reduceBEq,Int.reduceAdd,Int.reduceSub,Int.reduceLT,Int.reduceLE,Int.reduceEq,Int.reduceNeg,↓reduceIte,reduceCtorEq,List.replicate,c12]
    all_goals try (exfalso;omega)
    exact weak_flat rfl h0 rfl
 ·rw[decide_eq_false (by omega)]
  simp (disch:=first|omega|assumption|exact bd (by with_unfolding_all rfl)|exact Or.inl rfl|(simp only[VVlen]<;>omega)|fail) only[O1,WA,slotsL,opdsA,Nat.reduceEqDiff,Nat.reduceLT,Nat.reduceAdd,Nat.reduceBEq,Int.reduceAdd,Int.reduceSub,Int.reduceLT,Int.reduceLE,Int.reduceEq,Int.reduceNeg,↓reduceIte,reduceCtorEq,List.replicate,c12]
  all_goals try (exfalso;omega)
  exact weak_flat rfl h0 rfl
end
noncomputable def parseF:List (List UInt8)→List Ins→List Ins × Int × Int
 | [],acc=>(acc,0,0)
 | [l],acc=>if l= [] then (acc,0,0) else ([],acc.length,12)
 |l::l2::ls,acc=>match readO l with
  |some i=>parseF (l2::ls) (acc++ [i])
  |none=>([],acc.length,12)
noncomputable def parseT (s:List UInt8):List Ins × Int × Int:=if 40000<s.length∨2000<(words 10 s).length - 1 then ([],0,4) else parseF (words 10 s) []
def parV (p:List Ins × Int × Int):V:= .tup [.sl 3 p.1.length (insD p.1),.sc (.int .i64 p.2.1),.sc (.int .i64 p.2.2)]
theorem parseF_one (l:List UInt8) (acc:List Ins) (h:l ≠ []):parseF [l] acc=(([]:List Ins),(acc.length:Int),(12:Int)):=by rw[parseF,if_neg h]
theorem parseF_nil (acc:List Ins):parseF [[]] acc=(acc,0,0):=by rw[parseF,if_pos rfl]
theorem parseF_some {l:List UInt8} {ls:List (List UInt8)} {acc:List Ins} {i:Ins} (hl:ls ≠ []) (h:readO l=some i):parseF (l::ls) acc=parseF ls (acc++ [i]):=by
 cases ls with
 |nil=>exact absurd rfl hl
 |cons a r=>rw[parseF,h]
theorem parseF_none {l:List UInt8} {ls:List (List UInt8)} {acc:List Ins} (hl:ls ≠ []) (h:readO l=none):parseF (l::ls) acc=(([]:List Ins),(acc.length:Int),(12:Int)):=by
 cases ls with
 |nil=>exact absurd rfl hl
 |cons a r=>rw[parseF,h]
theorem insD_snoc (acc:List Ins) (i:Ins):insD (acc++ [i])=insD acc++ [.sc (.int .u8 i.op),.sc (.bool i.right),.sc (.int .u8 i.bed),.sc (.int .i64 i.pos),.sc (.int .i64 i.to),.sc (.int .i64 i.car),.sc (.int .i64 i.rack)]:=by
 simp[insD,insC]
theorem row1V_ins (nx t:Nat) (a b c d e f g:Value):mkRowV nx t 7 1 [.int .u8 0,.bool false,.int .u8 0,.int .i64 0,.int .i64 0,.int .i64 0,.int .i64 0] [(0,7,.agg [.sc a,.sc b,.sc c,.sc d,.sc e,.sc f,.sc g])]=some (.ref nx 0 1 1,some (.row t 7 false false [.sc a,.sc b,.sc c,.sc d,.sc e,.sc f,.sc g]),[]):=rfl
theorem snap_gr7 {H:VHp} {o t n:Nat} {z:Bool} {l:List D} (h:aget H o=some (.gro t 7 z l)) (hl:l.length=n*7):snapV H (.gr 2 o n)=some (.sl 2 n l):=by
 simp only[snapV,toD,h]
 rw[if_pos ⟨hl,by decide,by decide,by decide⟩]
 rfl
section
variable (w:World) (n:Nat)
theorem cparse_p (hes:(errO Tryd.prog w "strconv.ErrSyntax").isSome=true) (her:(errO Tryd.prog w "strconv.ErrRange").isSome=true) (s:List UInt8) (hs:s.length≤1000000):VSpec (EN w (n+7)) 15 [strV s] (parV (parseT s)) ⟨[],0,0⟩:=by
 refine vspec_g rfl rfl (fun _ _=>rfl) (Nat.le_of_ble_eq_true rfl) (oldVals w) retOK_finP rfl fun C hC h0=>?_
 have hrn:C.E.rounds=many:=by rw[hC,callP_rounds]
 have hsz:=mk_size s
 have hcnt:=count_p w (n+4) s 10 (by omega)
 have hcw:=count_words 10 s.length s (Nat.le_refl _)
 unfold parseT
 by_cases h1:40000<s.length
 ·rw[if_pos (.inl h1)]
  simp (disch:=first|omega|assumption|exact bd (by with_unfolding_all rfl)|exact Or.inl rfl|(simp only[VVlen]<;>omega)|fail) only[O1,WA,slotsL,opdsA,Nat.reduceEqDiff,Nat.reduceLT,Nat.reduceAdd,Nat.reduceBEq,Int.reduceAdd,Int.reduceSub,Int.reduceLT,Int.reduceLE,Int.reduceEq,Int.reduceNeg,↓reduceIte,reduceCtorEq,List.replicate,c15,hsz]
  all_goals try (exfalso;omega)
  exact weak_finPNil h0 rfl
 by_cases h2:2000<(words 10 s).length - 1
 ·rw[if_pos (.inr h2)]
  simp (disch:=first|omega|assumption|exact bd (by with_unfolding_all rfl)|exact Or.inl rfl|(simp only[VVlen]<;>omega)|fail) only[O1,WA,slotsL,opdsA,Nat.reduceEqDiff,Nat.reduceLT,Nat.reduceAdd,Nat.reduceBEq,Int.reduceAdd,Int.reduceSub,Int.reduceLT,Int.reduceLE,Int.reduceEq,Int.reduceNeg,↓reduceIte,reduceCtorEq,List.replicate,c15,hsz]
  all_goals try (exfalso;omega)
  refine callV_flat (by rw[hC];exact hcnt.flat rfl rfl) ?_
  simp (disch:=first|omega|assumption|exact bd (by with_unfolding_all rfl)|exact Or.inl rfl|(simp only[VVlen]<;>omega)|fail) only[O1,WA,slotsL,opdsA,Nat.reduceEqDiff,Nat.reduceLT,Nat.reduceAdd,Nat.reduceBEq,Int.reduceAdd,Int.reduceSub,Int.reduceLT,Int.reduceLE,Int.reduceEq,Int.reduceNeg,↓reduceIte,reduceCtorEq,List.replicate]
  all_goals try (exfalso;omega)
  exact weak_finPNil h0 rfl
 rw[if_neg (by omega)]
 simp (disch:=first|omega|assumption|exact bd (by with_unfolding_all rfl)|exact Or.inl rfl|(simp only[VVlen]<;>omega)|fail) only[O1,WA,slotsL,opdsA,Nat.reduceEqDiff,Nat.reduceLT,Nat.reduceAdd,Nat.reduceBEq,Int.reduceAdd,Int.reduceSub,Int.reduceLT,Int.reduceLE,Int.reduceEq,Int.reduceNeg,↓reduceIte,reduceCtorEq,List.replicate,c15,hsz]
 all_goals try (exfalso;omega)
 refine callV_flat (by rw[hC];exact hcnt.flat rfl rfl) ?_
 simp (disch:=first|omega|assumption|exact bd (by with_unfolding_all rfl)|exact Or.inl rfl|(simp only[VVlen]<;>omega)|fail) only[O1,WA,slotsL,opdsA,Nat.reduceEqDiff,Nat.reduceLT,Nat.reduceAdd,Nat.reduceBEq,Int.reduceAdd,Int.reduceSub,Int.reduceLT,Int.reduceLE,Int.reduceEq,Int.reduceNeg,↓reduceIte,reduceCtorEq,List.replicate]
 all_goals try (exfalso;omega)
 refine g_while (fun m fr st=>∃ (rest:List UInt8) (acc:List Ins),m=rest.length∧rest.length≤s.length∧acc.length+(words 10 rest).length≤2001∧parseF (words 10 rest) acc=parseF (words 10 s) []∧akeep [0,2] fr= [(0,strV rest),(2,.gr 2 0 acc.length)]∧st=⟨[(0,.gro 23 7 false (insD acc))],1,0⟩) s.length ?_ ⟨_,_,weak_nilSlot 2 23 7 rfl,s,[],rfl,Nat.le_refl _,by simp;omega,rfl,rfl,rfl⟩ ?_
 ·rw[hrn];unfold many;omega
 rintro m fr st ⟨rest,acc,rfl,hrl,hacc,hpf,hfr,rfl⟩
 rw[hfr]
 have hil:=insD_len acc
 by_cases hr0:rest= []
 ·subst hr0
  have hp:parseF (words 10 s) []=(acc,0,0):=by rw[← hpf];exact parseF_nil acc
  rw[hp]
  simp (disch:=first|omega|assumption|exact bd (by with_unfolding_all rfl)|exact Or.inl rfl|(simp only[VVlen]<;>omega)|fail) only[O1,WA,slotsL,opdsA,Nat.reduceEqDiff,Nat.reduceLT,Nat.reduceAdd,Nat.reduceBEq,Int.reduceAdd,Int.reduceSub,Int.reduceLT,Int.reduceLE,Int.reduceEq,Int.reduceNeg,↓reduceIte,reduceCtorEq,List.replicate,c15l0]
  all_goals try (exfalso;omega)
  refine weak_finP (s:=2) (n:=acc.length) (l:=insD acc) ?_ ?_ (.inl (by omega)) h0 rfl
  ·exact snap_gr7 rfl hil
  ·rfl
 have hcut:=cut_p w (n+1) rest 10 (by omega)
 have hne:(⟨rest.toArray⟩:ByteArray) ≠ ⟨#[]⟩:=fun e=>hr0 (by have:=congrArg (fun b:ByteArray=>b.data.toList) e;simpa using this)
 rcases byte_split 10 rest with hf|⟨a,r,rfl,hf⟩
 ·rw[cutB_free hf] at hcut
  have hp:parseF (words 10 s) []=(([]:List Ins),(acc.length:Int),(12:Int)):=by rw[← hpf,words_free hf];exact parseF_one rest acc hr0
  rw[hp]
  have hrd:=read_p w n hes her rest (by omega)
  obtain ⟨j,e,hj⟩:∃ j e,resI (readO rest)= .tup [insV j,.sc (.int .i64 e)]:=by
   cases readO rest with
   |none=>exact ⟨_,_,rfl⟩
   |some j=>exact ⟨_,_,rfl⟩
  rw[hj] at hrd
  obtain ⟨jo,jr,jb,jp,jt,jc,jk⟩:=j
  unfold insV at hrd
  simp (disch:=first|omega|assumption|exact bd (by with_unfolding_all rfl)|exact Or.inl rfl|(simp only[VVlen]<;>omega)|fail) only[O1,WA,slotsL,opdsA,Nat.reduceEqDiff,Nat.reduceLT,Nat.reduceAdd,Nat.reduceBEq,Int.reduceAdd,Int.reduceSub,Int.reduceLT,Int.reduceLE,Int.reduceEq,Int.reduceNeg,↓reduceIte,reduceCtorEq,List.replicate,c15l0,hne]
  all_goals try (exfalso;omega)
  refine callV_flat (by rw[hC];exact hcut.flat rfl rfl) ?_
  simp (disch:=first|omega|assumption|exact bd (by with_unfolding_all rfl)|exact Or.inl rfl|(simp only[VVlen]<;>omega)|fail) only[O1,WA,slotsL,opdsA,Nat.reduceEqDiff,Nat.reduceLT,Nat.reduceAdd,Nat.reduceBEq,Int.reduceAdd,Int.reduceSub,Int.reduceLT,Int.reduceLE,Int.reduceEq,Int.reduceNeg,↓reduceIte,reduceCtorEq,List.replicate]
  refine callV_flat (by rw[hC];exact hrd.flat rfl rfl) ?_
  simp (disch:=first|omega|assumption|exact bd (by with_unfolding_all rfl)|exact Or.inl rfl|(simp only[VVlen]<;>omega)|fail) only[O1,WA,slotsL,opdsA,Nat.reduceEqDiff,Nat.reduceLT,Nat.reduceAdd,Nat.reduceBEq,Int.reduceAdd,Int.reduceSub,Int.reduceLT,Int.reduceLE,Int.reduceEq,Int.reduceNeg,↓reduceIte,reduceCtorEq,List.replicate]
  all_goals try (exfalso;omega)
  exact weak_finPNil h0 rfl
 ·rw[cutB_app r hf] at hcut
  rw[words_app r hf] at hpf hacc
  have hwn:=words_ne 10 r
  rw[List.length_cons] at hacc
  have hll:(a++10::r).length=a.length+r.length+1:=by simp;omega
  have hrd:=read_p w n hes her a (by omega)
  cases hro:readO a with
  |none=>
   rw[hro] at hrd
   rw[parseF_none hwn hro] at hpf
   rw[← hpf]
   unfold resI insV ins0 at hrd
   simp (disch:=first|omega|assumption|exact bd (by with_unfolding_all rfl)|exact Or.inl rfl|(simp only[VVlen]<;>omega)|fail) only[O1,WA,slotsL,opdsA,Nat.reduceEqDiff,Nat.reduceLT,Nat.reduceAdd,Nat.reduceBEq,Int.reduceAdd,Int.reduceSub,Int.reduceLT,Int.reduceLE,Int.reduceEq,Int.reduceNeg,↓reduceIte,reduceCtorEq,List.replicate,c15l0,hne]
   all_goals try (exfalso;omega)
   refine callV_flat (by rw[hC];exact hcut.flat rfl rfl) ?_
   simp (disch:=first|omega|assumption|exact bd (by with_unfolding_all rfl)|exact Or.inl rfl|(simp only[VVlen]<;>omega)|fail) only[O1,WA,slotsL,opdsA,Nat.reduceEqDiff,Nat.reduceLT,Nat.reduceAdd,Nat.reduceBEq,Int.reduceAdd,Int.reduceSub,Int.reduceLT,Int.reduceLE,Int.reduceEq,Int.reduceNeg,↓reduceIte,reduceCtorEq,List.replicate]
   refine callV_flat (by rw[hC];exact hrd.flat rfl rfl) ?_
   simp (disch:=first|omega|assumption|exact bd (by with_unfolding_all rfl)|exact Or.inl rfl|(simp only[VVlen]<;>omega)|fail) only[O1,WA,slotsL,opdsA,Nat.reduceEqDiff,Nat.reduceLT,Nat.reduceAdd,Nat.reduceBEq,Int.reduceAdd,Int.reduceSub,Int.reduceLT,Int.reduceLE,Int.reduceEq,Int.reduceNeg,↓reduceIte,reduceCtorEq,List.replicate]
   all_goals try (exfalso;omega)
   exact weak_finPNil h0 rfl
  |some j=>
   rw[hro] at hrd
   rw[parseF_some hwn hro] at hpf
   have hsn:=insD_snoc acc j
   obtain ⟨jo,jr,jb,jp,jt,jc,jk⟩:=j
   unfold resI insV at hrd
   generalize insD acc=A at*
   simp (disch:=first|omega|assumption|exact bd (by with_unfolding_all rfl)|exact Or.inl rfl|(simp only[VVlen]<;>omega)|fail) only[O1,WA,slotsL,opdsA,Nat.reduceEqDiff,Nat.reduceLT,Nat.reduceAdd,Nat.reduceBEq,Int.reduceAdd,Int.reduceSub,Int.reduceLT,Int.reduceLE,Int.reduceEq,Int.reduceNeg,↓reduceIte,reduceCtorEq,List.replicate,c15l0,hne]
   all_goals try (exfalso;omega)
   refine callV_flat (by rw[hC];exact hcut.flat rfl rfl) ?_
   simp (disch:=first|omega|assumption|exact bd (by with_unfolding_all rfl)|exact Or.inl rfl|(simp only[VVlen]<;>omega)|fail) only[O1,WA,slotsL,opdsA,Nat.reduceEqDiff,Nat.reduceLT,Nat.reduceAdd,Nat.reduceBEq,Int.reduceAdd,Int.reduceSub,Int.reduceLT,Int.reduceLE,Int.reduceEq,Int.reduceNeg,↓reduceIte,reduceCtorEq,List.replicate]
   refine callV_flat (by rw[hC];exact hrd.flat rfl rfl) ?_
   simp (disch:=first|omega|assumption|exact bd (by with_unfolding_all rfl)|exact Or.inl rfl|(simp only[VVlen]<;>omega)|fail) only[O1,WA,slotsL,opdsA,Nat.reduceEqDiff,Nat.reduceLT,Nat.reduceAdd,Nat.reduceBEq,Int.reduceAdd,Int.reduceSub,Int.reduceLT,Int.reduceLE,Int.reduceEq,Int.reduceNeg,↓reduceIte,reduceCtorEq,List.replicate,row1V_ins]
   all_goals try (exfalso;omega)
   refine ⟨r.length,_,_,by omega,weak_to [(3,0)] 1 h0 rfl rfl rfl rfl,r,acc++ [⟨jo,jr,jb,jp,jt,jc,jk⟩],rfl,by omega,by rw[List.length_append];simp;omega,hpf,by rw[List.length_append];rfl,?_⟩
   rw[hsn]
   rfl
end
section
variable (w:World) (n:Nat)
theorem rparse_p (s:List UInt8) (hs:s.length≤1000000):VSpec (EN w (n+6)) 16 [strV s] (parV (parseT s)) ⟨[],0,0⟩:=by
 refine vspec_g rfl rfl (fun _ _=>rfl) (Nat.le_of_ble_eq_true rfl) (oldVals w) retOK_finP rfl fun C hC h0=>?_
 have hrn:C.E.rounds=many:=by rw[hC,callP_rounds]
 have hsz:=mk_size s
 have hcut:VSpec (EN w (n+5)) 32 [strV s,.sc (.int .u8 10)] (strs 2 (words 10 s)) ⟨[],0,0⟩:=cutF_p w (n+4) s 10 hs
 obtain ⟨hn1,hn2⟩:=words_len (c:=10) s.length (s:=s) (Nat.le_refl _)
 have hpos:0<(words 10 s).length:=List.length_pos_iff.2 (words_ne 10 s)
 unfold parseT
 generalize words 10 s=ls at*
 have hlm:(ls.map sD).length=ls.length:=by rw[List.length_map]
 by_cases h1:40000<s.length
 ·rw[if_pos (.inl h1)]
  simp (disch:=first|omega|assumption|exact bd (by with_unfolding_all rfl)|exact Or.inl rfl|(simp only[VVlen]<;>omega)|fail) only[O1,WA,slotsL,opdsA,Nat.reduceEqDiff,Nat.reduceLT,Nat.reduceAdd,Nat.reduceBEq,Int.reduceAdd,Int.reduceSub,Int.reduceLT,Int.reduceLE,Int.reduceEq,Int.reduceNeg,↓reduceIte,reduceCtorEq,List.replicate,c16,hsz]
  refine callV_fin (by rw[hC];exact hcut) rfl rfl (fun _=>rfl) ?_
  repeat' (first|(simp (disch:=first|omega|assumption|exact bd (by with_unfolding_all rfl)|exact Or.inl rfl|(simp only[VVlen]<;>omega)|fail) only[O1,WA,slotsL,opdsA,Nat.reduceEqDiff,Nat.reduceLT,Nat.reduceAdd,Nat.reduceBEq,Int.reduceAdd,Int.reduceSub,Int.reduceLT,Int.reduceLE,Int.reduceEq,Int.reduceNeg,↓reduceIte,reduceCtorEq,List.replicate,hsz])|apply gC_drawW|((first|apply gI_dec|apply gG_dec|apply gPG_dec|apply gI_var|apply gG_var|apply gPG_var)<;>intro _))
  all_goals try (exfalso;omega)
  exact weak_finPNil h0 rfl
 by_cases h2:2000<ls.length - 1
 ·rw[if_pos (.inr h2)]
  simp (disch:=first|omega|assumption|exact bd (by with_unfolding_all rfl)|exact Or.inl rfl|(simp only[VVlen]<;>omega)|fail) only[O1,WA,slotsL,opdsA,Nat.reduceEqDiff,Nat.reduceLT,Nat.reduceAdd,Nat.reduceBEq,Int.reduceAdd,Int.reduceSub,Int.reduceLT,Int.reduceLE,Int.reduceEq,Int.reduceNeg,↓reduceIte,reduceCtorEq,List.replicate,c16,hsz]
  refine callV_fin (by rw[hC];exact hcut) rfl rfl (fun _=>rfl) ?_
  simp (disch:=first|omega|assumption|exact bd (by with_unfolding_all rfl)|exact Or.inl rfl|(simp only[VVlen]<;>omega)|fail) only[O1,WA,slotsL,opdsA,Nat.reduceEqDiff,Nat.reduceLT,Nat.reduceAdd,Nat.reduceBEq,Int.reduceAdd,Int.reduceSub,Int.reduceLT,Int.reduceLE,Int.reduceEq,Int.reduceNeg,↓reduceIte,reduceCtorEq,List.replicate,hsz]
  all_goals try (exfalso;omega)
  exact weak_finPNil h0 rfl
 rw[if_neg (by omega)]
 simp (disch:=first|omega|assumption|exact bd (by with_unfolding_all rfl)|exact Or.inl rfl|(simp only[VVlen]<;>omega)|fail) only[O1,WA,slotsL,opdsA,Nat.reduceEqDiff,Nat.reduceLT,Nat.reduceAdd,Nat.reduceBEq,Int.reduceAdd,Int.reduceSub,Int.reduceLT,Int.reduceLE,Int.reduceEq,Int.reduceNeg,↓reduceIte,reduceCtorEq,List.replicate,c16,hsz]
 refine callV_fin (by rw[hC];exact hcut) rfl rfl (fun _=>rfl) ?_
 simp (disch:=first|omega|assumption|exact bd (by with_unfolding_all rfl)|exact Or.inl rfl|(simp only[VVlen]<;>omega)|fail) only[O1,WA,slotsL,opdsA,Nat.reduceEqDiff,Nat.reduceLT,Nat.reduceAdd,Nat.reduceBEq,Int.reduceAdd,Int.reduceSub,Int.reduceLT,Int.reduceLE,Int.reduceEq,Int.reduceNeg,↓reduceIte,reduceCtorEq,List.replicate,hsz]
 all_goals try (exfalso;omega)
 refine g_while (fun m fr st=>∃ (k:Nat) (acc:List Ins),m=ls.length - k∧k≤ls.length∧acc.length≤k∧(k<ls.length→parseF (ls.drop k) acc=parseF ls []∧acc.length=k)∧(k=ls.length→parseF ls []=(acc,0,0))∧akeep [5,6,7] fr= [(5,strs 2 ls),(6,.gr 2 0 acc.length),(7,.sc (.int .i64 k))]∧st=⟨[(0,.gro 23 7 false (insD acc))],1,0⟩) ls.length ?_ ⟨_,_,weak_nilSlot 6 23 7 rfl,0,[],by omega,Nat.zero_le _,Nat.zero_le _,fun _=>⟨rfl,rfl⟩,fun h=>by omega,rfl,rfl⟩ ?_
 ·rw[hrn];unfold many;omega
 rintro m fr st ⟨k,acc,rfl,hk,hacc,hp1,hp2,hfr,rfl⟩
 rw[hfr]
 have hil:=insD_len acc
 by_cases hkl:k<ls.length
 case neg=>
  rw[hp2 (by omega)]
  simp (disch:=first|omega|assumption|exact bd (by with_unfolding_all rfl)|exact Or.inl rfl|(simp only[VVlen]<;>omega)|fail) only[O1,WA,slotsL,opdsA,Nat.reduceEqDiff,Nat.reduceLT,Nat.reduceAdd,Nat.reduceBEq,Int.reduceAdd,Int.reduceSub,Int.reduceLT,Int.reduceLE,Int.reduceEq,Int.reduceNeg,↓reduceIte,reduceCtorEq,List.replicate,c16l0]
  all_goals try (exfalso;omega)
  refine weak_finP (s:=2) (n:=acc.length) (l:=insD acc) ?_ ?_ (.inl (by omega)) h0 rfl
  ·exact snap_gr7 rfl hil
  ·rfl
 obtain ⟨hp,hak⟩:=hp1 hkl
 have hdr:=List.drop_eq_getElem_cons hkl
 rw[← getElem!_pos ls k hkl] at hdr
 rw[hdr] at hp
 have hll:(ls[k]!).length≤s.length:=by
  rw[getElem!_pos ls k hkl]
  exact hn2 _ (List.getElem_mem _)
 have hrd:=rread_p w n ls[k]! (by omega)
 have hto:Int.toNat (k:Int)=k:=Int.toNat_natCast k
 by_cases hlast:k+1=ls.length
 ·have hd1:ls.drop (k+1)= []:=List.drop_eq_nil_of_le (by omega)
  rw[hd1] at hp
  generalize hX:ls[k]! =X at*
  by_cases hX0:X= []
  ·subst hX0
   rw[parseF_nil] at hp
   have hX2:ls[Int.toNat (k:Int)]! = []:=by rw[hto];exact hX
   simp (disch:=first|omega|assumption|exact bd (by with_unfolding_all rfl)|exact Or.inl rfl|(simp only[VVlen]<;>omega)|fail) only[O1,WA,slotsL,opdsA,Nat.reduceEqDiff,Nat.reduceLT,Nat.reduceAdd,Nat.reduceBEq,Int.reduceAdd,Int.reduceSub,Int.reduceLT,Int.reduceLE,Int.reduceEq,Int.reduceNeg,↓reduceIte,reduceCtorEq,List.replicate,c16l0,sD_dv,hX,hX2]
   all_goals try (exfalso;omega)
   exact ⟨ls.length - (k+1),_,_,by omega,.refl _ _,k+1,acc,rfl,by omega,by omega,fun h=>by omega,fun _=>hp.symm,rfl,rfl⟩
  ·have hne:(⟨X.toArray⟩:ByteArray) ≠ ⟨#[]⟩:=fun e=>hX0 (by have:=congrArg (fun b:ByteArray=>b.data.toList) e;simpa using this)
   rw[parseF_one _ _ hX0,hak] at hp
   rw[← hp]
   simp (disch:=first|omega|assumption|exact bd (by with_unfolding_all rfl)|exact Or.inl rfl|(simp only[VVlen]<;>omega)|fail) only[O1,WA,slotsL,opdsA,Nat.reduceEqDiff,Nat.reduceLT,Nat.reduceAdd,Nat.reduceBEq,Int.reduceAdd,Int.reduceSub,Int.reduceLT,Int.reduceLE,Int.reduceEq,Int.reduceNeg,↓reduceIte,reduceCtorEq,List.replicate,c16l0,sD_dv,hX,hne]
   all_goals try (exfalso;omega)
   exact weak_finPNil h0 rfl
 ·have hdn:ls.drop (k+1) ≠ []:=fun e=>by
   have:=List.drop_eq_nil_iff.1 e
   omega
  generalize hX:ls[k]! =X at*
  cases hro:readO X with
  |none=>
   rw[hro] at hrd
   rw[parseF_none hdn hro,hak] at hp
   rw[← hp]
   unfold resI insV ins0 at hrd
   simp (disch:=first|omega|assumption|exact bd (by with_unfolding_all rfl)|exact Or.inl rfl|(simp only[VVlen]<;>omega)|fail) only[O1,WA,slotsL,opdsA,Nat.reduceEqDiff,Nat.reduceLT,Nat.reduceAdd,Nat.reduceBEq,Int.reduceAdd,Int.reduceSub,Int.reduceLT,Int.reduceLE,Int.reduceEq,Int.reduceNeg,↓reduceIte,reduceCtorEq,List.replicate,c16l0,sD_dv,hX]
   all_goals try (exfalso;omega)
   refine callV_flat (by rw[hC];exact hrd.flat rfl rfl) ?_
   simp (disch:=first|omega|assumption|exact bd (by with_unfolding_all rfl)|exact Or.inl rfl|(simp only[VVlen]<;>omega)|fail) only[O1,WA,slotsL,opdsA,Nat.reduceEqDiff,Nat.reduceLT,Nat.reduceAdd,Nat.reduceBEq,Int.reduceAdd,Int.reduceSub,Int.reduceLT,Int.reduceLE,Int.reduceEq,Int.reduceNeg,↓reduceIte,reduceCtorEq,List.replicate]
   all_goals try (exfalso;omega)
   exact weak_finPNil h0 rfl
  |some j=>
   rw[hro] at hrd
   rw[parseF_some hdn hro] at hp
   have hsn:=insD_snoc acc j
   obtain ⟨jo,jr,jb,jp,jt,jc,jk⟩:=j
   unfold resI insV at hrd
   generalize insD acc=A at*
   simp (disch:=first|omega|assumption|exact bd (by with_unfolding_all rfl)|exact Or.inl rfl|(simp only[VVlen]<;>omega)|fail) only[O1,WA,slotsL,opdsA,Nat.reduceEqDiff,Nat.reduceLT,Nat.reduceAdd,Nat.reduceBEq,Int.reduceAdd,Int.reduceSub,Int.reduceLT,Int.reduceLE,Int.reduceEq,Int.reduceNeg,↓reduceIte,reduceCtorEq,List.replicate,c16l0,sD_dv,hX]
   all_goals try (exfalso;omega)
   refine callV_flat (by rw[hC];exact hrd.flat rfl rfl) ?_
   simp (disch:=first|omega|assumption|exact bd (by with_unfolding_all rfl)|exact Or.inl rfl|(simp only[VVlen]<;>omega)|fail) only[O1,WA,slotsL,opdsA,Nat.reduceEqDiff,Nat.reduceLT,Nat.reduceAdd,Nat.reduceBEq,Int.reduceAdd,Int.reduceSub,Int.reduceLT,Int.reduceLE,Int.reduceEq,Int.reduceNeg,↓reduceIte,reduceCtorEq,List.replicate,row1V_ins]
   all_goals try (exfalso;omega)
   refine ⟨ls.length - (k+1),_,_,by omega,weak_to [(3,0)] 1 h0 rfl rfl rfl rfl,k+1,acc++ [⟨jo,jr,jb,jp,jt,jc,jk⟩],rfl,by omega,by rw[List.length_append];simp;omega,fun h=>⟨hp,by rw[List.length_append];simp;omega⟩,fun h=>by omega,by rw[List.length_append];rfl,?_⟩
   rw[hsn]
   rfl
end
set_option maxHeartbeats 1000000
def mirI (i:Ins):Ins:=⟨i.op,if 3≤i.op∧i.op≤6 then !i.right else i.right,i.bed,-i.pos,-i.to,i.car,-i.rack⟩
noncomputable def mirF (L:List Ins):List Ins × Int:=if 2000<L.length then ([],4) else if L.all insOK=true then (L.map mirI,0) else ([],8)
def mirV (p:List Ins × Int):V:= .tup [.sl 3 p.1.length (insD p.1),.sc (.int .i64 p.2)]
abbrev z7:List Value:= [.int .u8 0,.bool false,.int .u8 0,.int .i64 0,.int .i64 0,.int .i64 0,.int .i64 0]
def zD (m:Nat):List D:=scD (rep z7 m)
theorem zD_len (m:Nat):(zD m).length=m*7:=by
 induction m with
 |zero=>rfl
 |succ m ih=>
  have e:zD (m+1)=scD z7++zD m:=by simp[zD,rep,scD]
  rw[e,List.length_append,ih];simp[scD];omega
theorem zD_succ (m:Nat):(zD (m+1)).drop 7=zD m:=by
 have e:zD (m+1)=scD z7++zD m:=by simp[zD,rep,scD]
 rw[e];rfl
theorem zD_put {A new:List D} {k c:Nat} (hA:A.length=k*7) (hn:new.length=7) (hk:k<c):(A++zD (c - k)).take (k*7)++new++(A++zD (c - k)).drop (k*7+7)=A++new++zD (c - (k+1)):=by
 have e:c - k=(c - (k+1))+1:=by omega
 rw[List.take_left' hA,← List.drop_drop,List.drop_left' hA,e,zD_succ]
theorem appFull_in (nx t e b n c o k m:Nat) (base:Src) (new:List D) (fz:List Nat) (hm:m ≠ 0) (hc:n+m≤c):appFull nx t e b n c o k base (some (m,new,fz))=none:=by
 have h:Nat.blt c (n+m)=false:=by rw[← Bool.not_eq_true,Nat.blt_eq];omega
 simp only[appFull,h,Bool.and_false,Bool.false_and,Bool.false_eq_true,if_false]
 rw[if_neg (by rw[nbeq];exact hm)]
 split<;>rfl
theorem appRoom_lo (H:VHp) (nx ro t e b o k n c t' e' m:Nat) (g:Bool) (l new:List D) (hro:ro≤o) (he:e ≠ 0) (hm:m ≠ 0) (hok:okL new=true) (hle:n+m≤c) (hc:c≤1099511627776) (h2:(n+m)*b≤1099511627776) (hl:k+n*e+new.length≤l.length):
  appRoom ⟨H,nx,ro⟩ t e b o k n c (some (.row t' e' g false l)) (some (m,new,[]))=some (.ref o k (n+m) c,⟨aset H o (.row t' e' g false (l.take (k+n*e)++new++l.drop (k+n*e+new.length))),nx,ro⟩):=by
 simp only[appRoom,hok]
 have hb:Nat.ble ro o=true:=by rw[Nat.ble_eq];exact hro
 have h3:Nat.ble (n+m) room=true:=by rw[Nat.ble_eq];unfold room;omega
 have h4:Nat.ble ((n+m)*b) room=true:=by rw[Nat.ble_eq];exact h2
 have h5:Nat.blt c big=true:=by rw[Nat.blt_eq];unfold big;omega
 have h6:Nat.ble (n+m) c=true:=by rw[Nat.ble_eq];exact hle
 rw[if_pos (by simp[nbf.2 he,rowsB]),if_neg (by simp[hb,h3,h4,nbf.2 hm]),if_pos h5,if_pos (by rw[h6];simp[elemB])]
 rw[putL_mid _ _ _ hl,frozA_nil]
 rfl
theorem zD_ok (m:Nat):(rep z7 m).all scOK=true:=by
 induction m with
 |zero=>rfl
 |succ m ih=>
  have e:rep z7 (m+1)=z7++rep z7 m:=rfl
  rw[e,List.all_append,ih];rfl
theorem mkSliceV_ins (nx t c:Nat) (hc:c≤1000000):mkSliceV nx t 7 40 z7 (.sc (.int .i64 0)) (.sc (.int .i64 c))=some (.ref nx 0 0 c,some (.row t 7 false false (zD c)),[]):=by
 simp only[mkSliceV]
 rw[if_pos ⟨by omega,by omega,by unfold room;omega,by unfold room;omega,by rw[Int.toNat_natCast];exact zD_ok c⟩]
 rfl
theorem eqBV_t (a:Bool):eqBV true (.sc (.bool a)) (.sc (.bool true))=some (.sc (.bool (!a))):=by cases a<;>rfl
theorem eqBV_f (a:Bool):eqBV true (.sc (.bool a)) (.sc (.bool false))=some (.sc (.bool a)):=by cases a<;>rfl
theorem parts_d:∀ op,op<10→0<op→decide (0≤idxB 100 (partsI op))=decide (3≤op∧op≤6):=by decide
theorem map_take {L:List Ins} {k:Nat} (hk:k<L.length):(L.take (k+1)).map mirI=(L.take k).map mirI++ [mirI L[k]!]:=by
 rw[List.take_succ_eq_append_getElem hk,List.map_append,getElem!_pos _ k hk];rfl
attribute [local irreducible] wordsD
section
variable (w:World) (n:Nat)
theorem cmirror_p (s:Nat) (L:List Ins) (hL:L.length≤140737488351232):VSpec (EN w (n+6)) 17 [.sl s L.length (insD L)] (mirV (mirF L)) ⟨[],0,0⟩:=by
 refine vspec_g rfl rfl (fun _ _=>rfl) (Nat.le_of_ble_eq_true rfl) (oldVals w) retOK_fin rfl fun C hC h0=>?_
 have hrn:C.E.rounds=many:=by rw[hC,callP_rounds]
 have hil:=insD_len L
 unfold mirF
 by_cases h2:2000<L.length
 ·rw[if_pos h2]
  simp (disch:=first|omega|assumption|exact bd (by with_unfolding_all rfl)|exact Or.inl rfl|(simp only[VVlen]<;>omega)|fail) only[O1,WA,slotsL,opdsA,Nat.reduceEqDiff,Nat.reduceLT,Nat.reduceAdd,Nat.reduceBEq,Int.reduceAdd,Int.reduceSub,Int.reduceLT,Int.reduceLE,Int.reduceEq,Int.reduceNeg,↓reduceIte,reduceCtorEq,List.replicate,c17]
  all_goals try (exfalso;omega)
  exact weak_finNil h0 rfl
 rw[if_neg h2]
 have hmk:=fun nx t=>mkSliceV_ins nx t L.length (by omega)
 unfold z7 at hmk
 simp (disch:=first|omega|assumption|exact bd (by with_unfolding_all rfl)|exact Or.inl rfl|(simp only[VVlen]<;>omega)|fail) only[O1,WA,slotsL,opdsA,Nat.reduceEqDiff,Nat.reduceLT,Nat.reduceAdd,Nat.reduceBEq,Int.reduceAdd,Int.reduceSub,Int.reduceLT,Int.reduceLE,Int.reduceEq,Int.reduceNeg,↓reduceIte,reduceCtorEq,List.replicate,c17,hmk]
 all_goals try (exfalso;omega)
 refine g_while (fun m fr st=>∃ (k:Nat),m=L.length - k∧k≤L.length∧(L.take k).all insOK=true∧fr= [(4,.ref 0 0 k L.length),(14,.sl s L.length (insD L)),(15,.sc (.int .i64 L.length)),(16,.sc (.int .i64 k))]∧
  st=⟨[(0,.row 23 7 false false (insD ((L.take k).map mirI)++zD (L.length - k)))],1,0⟩) L.length ?_ ⟨_,_,.refl _ _,0,by omega,Nat.zero_le _,rfl,rfl,rfl⟩ ?_
 ·rw[hrn];unfold many;omega
 rintro m fr st ⟨k,rfl,hk,hall,rfl,rfl⟩
 have htk:((L.take k).map mirI).length=k:=by rw[List.length_map,List.length_take];omega
 by_cases hlt:k<L.length
 case neg=>
  have:k=L.length:=by omega
  subst this
  rw[List.take_length] at hall htk ⊢
  rw[if_pos hall]
  have hil2:=insD_len (L.map mirI)
  have hml:(L.map mirI).length=L.length:=by rw[List.length_map]
  have hz0:zD (L.length - L.length)= []:=by rw[Nat.sub_self];rfl
  rw[hz0,List.append_nil]
  rw[hml] at hil2
  have hsn:∀ c,snapV [(0,Itp.Obj.row 23 7 false false (insD (L.map mirI)))] (.ref 0 0 L.length c)=some (.sl 0 L.length (insD (L.map mirI))):=fun c=>by
   simp only[snapV,toD,aget_cons,if_true,List.drop_zero]
   rw[if_pos (by omega),← hil2,List.take_length]
   rfl
  unfold mirV
  rw[hml]
  simp (disch:=first|omega|assumption|exact bd (by with_unfolding_all rfl)|exact Or.inl rfl|(simp only[VVlen]<;>omega)|fail) only[O1,WA,slotsL,opdsA,Nat.reduceEqDiff,Nat.reduceLT,Nat.reduceAdd,Nat.reduceBEq,Int.reduceAdd,Int.reduceSub,Int.reduceLT,Int.reduceLE,Int.reduceEq,Int.reduceNeg,↓reduceIte,reduceCtorEq,List.replicate,c17l0]
  all_goals try (exfalso;omega)
  exact weak_fin (s:=0) (n:=L.length) (l:=insD (L.map mirI)) (hsn _) rfl (.inl (by omega)) h0 rfl
 have hag:=insD_agg L k hlt
 have hmt:=map_take hlt
 have hb1:=fun h=>all_take hlt hall h
 have hb2:=fun h=>all_bad hlt h
 have hbi:=binstr_p w (n+3) L[k]!
 generalize hX:L[k]! =X at*
 by_cases hv:insOK X=true
 ·have hb3:=hb1 hv
  have hvp:=insOK_iff.1 hv
  have hop:=hvp.op_lt
  have hbd:=hvp.bounds
  unfold ndOK at hbd
  have hwo:=wordsD_snd hop.2
  have hpd:=parts_d X.op hop.2 hop.1
  have hct:=contains_p w n (partsI X.op) 100 (by have:=partsI_len hop.2;omega)
  rw[hpd] at hct
  rw[if_pos hv] at hbi
  have hsn:=insD_snoc ((L.take k).map mirI) (mirI X)
  have hzp:=fun new hn=>zD_put (A:=insD ((L.take k).map mirI)) (new:=new) (k:=k) (c:=L.length) (by rw[insD_len,htk]) hn hlt
  clear hb1 hb2
  have hmi:mirI X=⟨X.op,if 3≤X.op∧X.op≤6 then !X.right else X.right,X.bed,-X.pos,-X.to,X.car,-X.rack⟩:=rfl
  rw[hmi] at hsn
  have hAl:=insD_len ((L.take k).map mirI)
  rw[htk] at hAl
  have hzl:=zD_len (L.length - k)
  have hlen:(insD ((L.take k).map mirI)++zD (L.length - k)).length=L.length*7:=by rw[List.length_append,hAl,hzl];omega
  rw[hmi] at hmt
  rw[← hmt] at hsn
  obtain ⟨xo,xr,xb,xp,xt,xc,xk⟩:=X
  unfold insV at hag hbi
  simp only at hct hop hwo hbd
  generalize insD ((L.take k).map mirI)=A at*
  generalize hB:A++zD (L.length - k)=B at*
  generalize partsI xo=PP at*
  clear hpd hB hAl hzl htk hmk hmi hvp hv hX
  by_cases h36:3≤xo∧xo≤6
  ·rw[if_pos h36] at hsn
   rw[decide_eq_true h36] at hct
   have hct':∀ (H:VHp) (nx:Nat),VSpecO C.E 40 ⟨H,nx,nx⟩ [strV PP,.sc (.string ⟨#[100]⟩)] (.sc (.bool true)):=fun H nx=>by rw[hC];exact hct.flat rfl rfl
   have hzp:=hzp [.sc (.int .u8 xo),.sc (.bool (!xr)),.sc (.int .u8 xb),.sc (.int .i64 (-xp)),.sc (.int .i64 (-xt)),.sc (.int .i64 xc),.sc (.int .i64 (-xk))] rfl
   simp (disch:=first|omega|assumption|exact bd (by with_unfolding_all rfl)|exact Or.inl rfl|(simp only[VVlen]<;>omega)|fail) only[O1,WA,slotsL,opdsA,Nat.reduceEqDiff,Nat.reduceLT,Nat.reduceAdd,Nat.reduceBEq,Int.reduceAdd,Int.reduceSub,Int.reduceLT,Int.reduceLE,Int.reduceEq,Int.reduceNeg,↓reduceIte,reduceCtorEq,List.replicate,c17l0,hag]
   all_goals try (exfalso;omega)
   refine callV_flat (by rw[hC];exact hbi.flat rfl rfl) ?_
   simp (disch:=first|omega|assumption|exact bd (by with_unfolding_all rfl)|exact Or.inl rfl|(simp only[VVlen]<;>omega)|fail) only[O1,WA,slotsL,opdsA,Nat.reduceEqDiff,Nat.reduceLT,Nat.reduceAdd,Nat.reduceBEq,Int.reduceAdd,Int.reduceSub,Int.reduceLT,Int.reduceLE,Int.reduceEq,Int.reduceNeg,↓reduceIte,reduceCtorEq,List.replicate]
   refine call1_of (by rw[hC];exact codewords_1 w (n+4) _ _) ?_
   simp (disch:=first|omega|assumption|exact bd (by with_unfolding_all rfl)|exact Or.inl rfl|(simp only[VVlen]<;>omega)|fail) only[O1,WA,slotsL,opdsA,Nat.reduceEqDiff,Nat.reduceLT,Nat.reduceAdd,Nat.reduceBEq,Int.reduceAdd,Int.reduceSub,Int.reduceLT,Int.reduceLE,Int.reduceEq,Int.reduceNeg,↓reduceIte,reduceCtorEq,List.replicate,hwo]
   all_goals try (exfalso;omega)
   refine call0_of (hct' _ _) ?_
   simp (disch:=first|omega|assumption|exact bd (by with_unfolding_all rfl)|exact Or.inl rfl|(simp only[VVlen]<;>omega)|fail) only[O1,WA,slotsL,opdsA,Nat.reduceEqDiff,Nat.reduceLT,Nat.reduceAdd,Nat.reduceBEq,Int.reduceAdd,Int.reduceSub,Int.reduceLT,Int.reduceLE,Int.reduceEq,Int.reduceNeg,↓reduceIte,reduceCtorEq,List.replicate,eqBV_t,eqBV_f,row1V_ins,appFull_in,appRoom_lo,Nat.zero_add,Int.zero_sub]
   all_goals try (exfalso;omega)
   refine ⟨L.length - (k+1),_,_,by omega,weak_to [(0,0)] 1 h0 rfl rfl rfl rfl,k+1,rfl,by omega,hb3,rfl,?_⟩
   rw[hsn,← hzp]
   rfl
  ·rw[if_neg h36] at hsn
   rw[decide_eq_false h36] at hct
   have hct':∀ (H:VHp) (nx:Nat),VSpecO C.E 40 ⟨H,nx,nx⟩ [strV PP,.sc (.string ⟨#[100]⟩)] (.sc (.bool false)):=fun H nx=>by rw[hC];exact hct.flat rfl rfl
   have hzp:=hzp [.sc (.int .u8 xo),.sc (.bool xr),.sc (.int .u8 xb),.sc (.int .i64 (-xp)),.sc (.int .i64 (-xt)),.sc (.int .i64 xc),.sc (.int .i64 (-xk))] rfl
   simp (disch:=first|omega|assumption|exact bd (by with_unfolding_all rfl)|exact Or.inl rfl|(simp only[VVlen]<;>omega)|fail) only[O1,WA,slotsL,opdsA,Nat.reduceEqDiff,Nat.reduceLT,Nat.reduceAdd,Nat.reduceBEq,Int.reduceAdd,Int.reduceSub,Int.reduceLT,Int.reduceLE,Int.reduceEq,Int.reduceNeg,↓reduceIte,reduceCtorEq,List.replicate,c17l0,hag]
   all_goals try (exfalso;omega)
   refine callV_flat (by rw[hC];exact hbi.flat rfl rfl) ?_
   simp (disch:=first|omega|assumption|exact bd (by with_unfolding_all rfl)|exact Or.inl rfl|(simp only[VVlen]<;>omega)|fail) only[O1,WA,slotsL,opdsA,Nat.reduceEqDiff,Nat.reduceLT,Nat.reduceAdd,Nat.reduceBEq,Int.reduceAdd,Int.reduceSub,Int.reduceLT,Int.reduceLE,Int.reduceEq,Int.reduceNeg,↓reduceIte,reduceCtorEq,List.replicate]
   refine call1_of (by rw[hC];exact codewords_1 w (n+4) _ _) ?_
   simp (disch:=first|omega|assumption|exact bd (by with_unfolding_all rfl)|exact Or.inl rfl|(simp only[VVlen]<;>omega)|fail) only[O1,WA,slotsL,opdsA,Nat.reduceEqDiff,Nat.reduceLT,Nat.reduceAdd,Nat.reduceBEq,Int.reduceAdd,Int.reduceSub,Int.reduceLT,Int.reduceLE,Int.reduceEq,Int.reduceNeg,↓reduceIte,reduceCtorEq,List.replicate,hwo]
   all_goals try (exfalso;omega)
   refine call0_of (hct' _ _) ?_
   simp (disch:=first|omega|assumption|exact bd (by with_unfolding_all rfl)|exact Or.inl rfl|(simp only[VVlen]<;>omega)|fail) only[O1,WA,slotsL,opdsA,Nat.reduceEqDiff,Nat.reduceLT,Nat.reduceAdd,Nat.reduceBEq,Int.reduceAdd,Int.reduceSub,Int.reduceLT,Int.reduceLE,Int.reduceEq,Int.reduceNeg,↓reduceIte,reduceCtorEq,List.replicate,eqBV_t,eqBV_f,row1V_ins,appFull_in,appRoom_lo,Nat.zero_add,Int.zero_sub]
   all_goals try (exfalso;omega)
   refine ⟨L.length - (k+1),_,_,by omega,weak_to [(0,0)] 1 h0 rfl rfl rfl rfl,k+1,rfl,by omega,hb3,rfl,?_⟩
   rw[hsn,← hzp]
   rfl
 ·have hb3:=hb2 (by simpa using hv)
  rw[if_neg hb3]
  rw[if_neg hv] at hbi
  clear hb1 hb2
  obtain ⟨xo,xr,xb,xp,xt,xc,xk⟩:=X
  unfold insV at hag hbi
  simp (disch:=first|omega|assumption|exact bd (by with_unfolding_all rfl)|exact Or.inl rfl|(simp only[VVlen]<;>omega)|fail) only[O1,WA,slotsL,opdsA,Nat.reduceEqDiff,Nat.reduceLT,Nat.reduceAdd,Nat.reduceBEq,Int.reduceAdd,Int.reduceSub,Int.reduceLT,Int.reduceLE,Int.reduceEq,Int.reduceNeg,↓reduceIte,reduceCtorEq,List.replicate,c17l0,hag]
  all_goals try (exfalso;omega)
  refine callV_flat (by rw[hC];exact hbi.flat rfl rfl) ?_
  simp (disch:=first|omega|assumption|exact bd (by with_unfolding_all rfl)|exact Or.inl rfl|(simp only[VVlen]<;>omega)|fail) only[O1,WA,slotsL,opdsA,Nat.reduceEqDiff,Nat.reduceLT,Nat.reduceAdd,Nat.reduceBEq,Int.reduceAdd,Int.reduceSub,Int.reduceLT,Int.reduceLE,Int.reduceEq,Int.reduceNeg,↓reduceIte,reduceCtorEq,List.replicate]
  exact weak_finNil h0 rfl
end
end Go.Proofs.YtbefpfbidgfipaaDoor
namespace Go.Proofs.YtbefpfbidgfipaaDoor
open Go Go.Itp
set_option maxRecDepth 100000
set_option maxHeartbeats 800000
set_option linter.unusedSimpArgs false
set_option linter.unusedVariables false
section
variable (w:World) (n:Nat)
theorem mirr_a (xo xb:Nat) (xr:Bool) (xp xt xc xk:Int) (hop:0<xo∧xo<10) (h36:3≤xo∧xo≤6) (hbd: -1000≤xp∧xp≤1000∧ -1000≤xt∧xt≤1000∧ -1000≤xk∧xk≤1000):VSpec (EN w (n+1)) 41 [.agg [.sc (.int .u8 xo),.sc (.bool xr),.sc (.int .u8 xb),.sc (.int .i64 xp),.sc (.int .i64 xt),.sc (.int .i64 xc),.sc (.int .i64 xk)]] (.agg [.sc (.int .u8 xo),.sc (.bool (!xr)),.sc (.int .u8 xb),.sc (.int .i64 (-xp)),.sc (.int .i64 (-xt)),.sc (.int .i64 xc),.sc (.int .i64 (-xk))]) ⟨[],0,0⟩:=by
 refine vspec_flat rfl rfl (fun _ _=>rfl) (Nat.le_of_ble_eq_true rfl) (oldVals w) rfl fun C hC h0=>?_
 simp (disch:=first|omega|assumption|exact bd (by with_unfolding_all rfl)|exact Or.inl rfl|(simp only[VVlen]<;>omega)|fail) only[O1,WA,slotsL,opdsA,Nat.reduceEqDiff,Nat.reduceLT,Nat.reduceAdd,Nat.reduceBEq,Int.reduceAdd,Int.reduceSub,Int.reduceLT,Int.reduceLE,Int.reduceEq,Int.reduceNeg,↓reduceIte,reduceCtorEq,List.replicate,c41,Int.zero_sub]
 all_goals try (exfalso;omega)
 all_goals exact weak_flat rfl h0 rfl
theorem mirr_b (xo xb:Nat) (xr:Bool) (xp xt xc xk:Int) (hop:0<xo∧xo<10) (h36:¬ (3≤xo∧xo≤6)) (hbd: -1000≤xp∧xp≤1000∧ -1000≤xt∧xt≤1000∧ -1000≤xk∧xk≤1000):VSpec (EN w (n+1)) 41 [.agg [.sc (.int .u8 xo),.sc (.bool xr),.sc (.int .u8 xb),.sc (.int .i64 xp),.sc (.int .i64 xt),.sc (.int .i64 xc),.sc (.int .i64 xk)]] (.agg [.sc (.int .u8 xo),.sc (.bool xr),.sc (.int .u8 xb),.sc (.int .i64 (-xp)),.sc (.int .i64 (-xt)),.sc (.int .i64 xc),.sc (.int .i64 (-xk))]) ⟨[],0,0⟩:=by
 refine vspec_flat rfl rfl (fun _ _=>rfl) (Nat.le_of_ble_eq_true rfl) (oldVals w) rfl fun C hC h0=>?_
 repeat' (first|(simp (disch:=first|omega|assumption|exact bd (by with_unfolding_all rfl)|exact Or.inl rfl|(simp only[VVlen]<;>omega)|fail) only[O1,WA,slotsL,opdsA,Nat.reduceEqDiff,Nat.reduceLT,Nat.reduceAdd,Nat.reduceBEq,Int.reduceAdd,Int.reduceSub,Int.reduceLT,Int.reduceLE,Int.reduceEq,Int.reduceNeg,↓reduceIte,reduceCtorEq,List.replicate,c41,Int.zero_sub])|apply gC_drawW|((first|apply gI_dec|apply gG_dec|apply gPG_dec|apply gI_var|apply gG_var|apply gPG_var)<;>intro _))
 all_goals try (exfalso;omega)
 all_goals exact weak_flat rfl h0 rfl
theorem mirrored_p (X:Ins) (hv:InsP X):VSpec (EN w (n+1)) 41 [insV X] (insV (mirI X)) ⟨[],0,0⟩:=by
 have hop:=hv.op_lt
 obtain ⟨b1,b2,b3,b4,b5⟩:=hv.bounds
 unfold ndOK at b2 b3
 by_cases h36:3≤X.op∧X.op≤6
 ·have e:insV (mirI X)= .agg [.sc (.int .u8 X.op),.sc (.bool (!X.right)),.sc (.int .u8 X.bed),.sc (.int .i64 (-X.pos)),.sc (.int .i64 (-X.to)),.sc (.int .i64 X.car),.sc (.int .i64 (-X.rack))]:=by unfold insV mirI;rw[if_pos h36]
  rw[e]
  exact mirr_a w n X.op X.bed X.right X.pos X.to X.car X.rack hop h36 (by omega)
 ·have e:insV (mirI X)= .agg [.sc (.int .u8 X.op),.sc (.bool X.right),.sc (.int .u8 X.bed),.sc (.int .i64 (-X.pos)),.sc (.int .i64 (-X.to)),.sc (.int .i64 X.car),.sc (.int .i64 (-X.rack))]:=by unfold insV mirI;rw[if_neg h36]
  rw[e]
  exact mirr_b w n X.op X.bed X.right X.pos X.to X.car X.rack hop h36 (by omega)
theorem rmirror_p (s:Nat) (L:List Ins) (hL:L.length≤140737488351232):VSpec (EN w (n+3)) 18 [.sl s L.length (insD L)] (mirV (mirF L)) ⟨[],0,0⟩:=by
 refine vspec_g rfl rfl (fun _ _=>rfl) (Nat.le_of_ble_eq_true rfl) (oldVals w) retOK_fin rfl fun C hC h0=>?_
 have hrn:C.E.rounds=many:=by rw[hC,callP_rounds]
 have hil:=insD_len L
 unfold mirF
 by_cases h2:2000<L.length
 ·rw[if_pos h2]
  simp (disch:=first|omega|assumption|exact bd (by with_unfolding_all rfl)|exact Or.inl rfl|(simp only[VVlen]<;>omega)|fail) only[O1,WA,slotsL,opdsA,Nat.reduceEqDiff,Nat.reduceLT,Nat.reduceAdd,Nat.reduceBEq,Int.reduceAdd,Int.reduceSub,Int.reduceLT,Int.reduceLE,Int.reduceEq,Int.reduceNeg,↓reduceIte,reduceCtorEq,List.replicate,c18]
  all_goals try (exfalso;omega)
  exact weak_finNil h0 rfl
 rw[if_neg h2]
 simp (disch:=first|omega|assumption|exact bd (by with_unfolding_all rfl)|exact Or.inl rfl|(simp only[VVlen]<;>omega)|fail) only[O1,WA,slotsL,opdsA,Nat.reduceEqDiff,Nat.reduceLT,Nat.reduceAdd,Nat.reduceBEq,Int.reduceAdd,Int.reduceSub,Int.reduceLT,Int.reduceLE,Int.reduceEq,Int.reduceNeg,↓reduceIte,reduceCtorEq,List.replicate,c18]
 all_goals try (exfalso;omega)
 refine g_while (fun m fr st=>∃ (k:Nat),m=L.length - k∧k≤L.length∧(L.take k).all insOK=true∧akeep [0,4,5] fr= [(0,.sl s L.length (insD L)),(4,.gr 2 0 k),(5,.sc (.int .i64 k))]∧
  st=⟨[(0,.gro 23 7 false (insD ((L.take k).map mirI)))],1,0⟩) L.length ?_ ⟨_,_,weak_nilSlot 4 23 7 rfl,0,by omega,Nat.zero_le _,rfl,rfl,rfl⟩ ?_
 ·rw[hrn];unfold many;omega
 rintro m fr st ⟨k,rfl,hk,hall,hfr,rfl⟩
 rw[hfr]
 have htk:((L.take k).map mirI).length=k:=by rw[List.length_map,List.length_take];omega
 have hAl:=insD_len ((L.take k).map mirI)
 rw[htk] at hAl
 by_cases hlt:k<L.length
 case neg=>
  have:k=L.length:=by omega
  subst this
  rw[List.take_length] at hall htk hAl ⊢
  rw[if_pos hall]
  have hml:(L.map mirI).length=L.length:=by rw[List.length_map]
  unfold mirV
  rw[hml]
  simp (disch:=first|omega|assumption|exact bd (by with_unfolding_all rfl)|exact Or.inl rfl|(simp only[VVlen]<;>omega)|fail) only[O1,WA,slotsL,opdsA,Nat.reduceEqDiff,Nat.reduceLT,Nat.reduceAdd,Nat.reduceBEq,Int.reduceAdd,Int.reduceSub,Int.reduceLT,Int.reduceLE,Int.reduceEq,Int.reduceNeg,↓reduceIte,reduceCtorEq,List.replicate,c18l0]
  all_goals try (exfalso;omega)
  refine weak_fin (s:=2) (n:=L.length) (l:=insD (L.map mirI)) ?_ ?_ (.inl (by omega)) h0 rfl
  ·exact snap_gr7 rfl hAl
  ·rfl
 have hag:=insD_agg L k hlt
 have hmt:=map_take hlt
 have hb1:=fun h=>all_take hlt hall h
 have hb2:=fun h=>all_bad hlt h
 have hri:=rinstr_p w n L[k]!
 have hmr:=fun h=>mirrored_p w (n+1) L[k]! h
 generalize hX:L[k]! =X at*
 by_cases hv:insOK X=true
 ·have hb3:=hb1 hv
  have hm:=hmr (insOK_iff.1 hv)
  rw[if_pos hv] at hri
  have hsn:=insD_snoc ((L.take k).map mirI) (mirI X)
  rw[← hmt] at hsn
  clear hb1 hb2 hmr hmt hX
  generalize insD ((L.take k).map mirI)=A at*
  generalize mirI X=Y at*
  obtain ⟨xo,xr,xb,xp,xt,xc,xk⟩:=X
  obtain ⟨yo,yr,yb,yp,yt,yc,yk⟩:=Y
  unfold insV at hag hri hm
  simp (disch:=first|omega|assumption|exact bd (by with_unfolding_all rfl)|exact Or.inl rfl|(simp only[VVlen]<;>omega)|fail) only[O1,WA,slotsL,opdsA,Nat.reduceEqDiff,Nat.reduceLT,Nat.reduceAdd,Nat.reduceBEq,Int.reduceAdd,Int.reduceSub,Int.reduceLT,Int.reduceLE,Int.reduceEq,Int.reduceNeg,↓reduceIte,reduceCtorEq,List.replicate,c18l0,hag]
  all_goals try (exfalso;omega)
  refine callV_flat (by rw[hC];exact hri.flat rfl rfl) ?_
  simp (disch:=first|omega|assumption|exact bd (by with_unfolding_all rfl)|exact Or.inl rfl|(simp only[VVlen]<;>omega)|fail) only[O1,WA,slotsL,opdsA,Nat.reduceEqDiff,Nat.reduceLT,Nat.reduceAdd,Nat.reduceBEq,Int.reduceAdd,Int.reduceSub,Int.reduceLT,Int.reduceLE,Int.reduceEq,Int.reduceNeg,↓reduceIte,reduceCtorEq,List.replicate,hag]
  all_goals try (exfalso;omega)
  refine callV_flat (by rw[hC];exact hm.flat rfl rfl) ?_
  simp (disch:=first|omega|assumption|exact bd (by with_unfolding_all rfl)|exact Or.inl rfl|(simp only[VVlen]<;>omega)|fail) only[O1,WA,slotsL,opdsA,Nat.reduceEqDiff,Nat.reduceLT,Nat.reduceAdd,Nat.reduceBEq,Int.reduceAdd,Int.reduceSub,Int.reduceLT,Int.reduceLE,Int.reduceEq,Int.reduceNeg,↓reduceIte,reduceCtorEq,List.replicate,row1V_ins]
  all_goals try (exfalso;omega)
  refine ⟨L.length - (k+1),_,_,by omega,weak_to [(2,0)] 1 h0 rfl rfl rfl rfl,k+1,rfl,by omega,hb3,rfl,?_⟩
  rw[hsn]
  rfl
 ·have hb3:=hb2 (by simpa using hv)
  rw[if_neg hb3]
  rw[if_neg hv] at hri
  clear hb1 hb2 hmr hX
  obtain ⟨xo,xr,xb,xp,xt,xc,xk⟩:=X
  unfold insV at hag hri
  simp (disch:=first|omega|assumption|exact bd (by with_unfolding_all rfl)|exact Or.inl rfl|(simp only[VVlen]<;>omega)|fail) only[O1,WA,slotsL,opdsA,Nat.reduceEqDiff,Nat.reduceLT,Nat.reduceAdd,Nat.reduceBEq,Int.reduceAdd,Int.reduceSub,Int.reduceLT,Int.reduceLE,Int.reduceEq,Int.reduceNeg,↓reduceIte,reduceCtorEq,List.replicate,c18l0,hag]
  all_goals try (exfalso;omega)
  refine callV_flat (by rw[hC];exact hri.flat rfl rfl) ?_
  simp (disch:=first|omega|assumption|exact bd (by with_unfolding_all rfl)|exact Or.inl rfl|(simp only[VVlen]<;>omega)|fail) only[O1,WA,slotsL,opdsA,Nat.reduceEqDiff,Nat.reduceLT,Nat.reduceAdd,Nat.reduceBEq,Int.reduceAdd,Int.reduceSub,Int.reduceLT,Int.reduceLE,Int.reduceEq,Int.reduceNeg,↓reduceIte,reduceCtorEq,List.replicate]
  exact weak_finNil h0 rfl
end
set_option maxHeartbeats 2000000
theorem parseF_len:∀ (ls:List (List UInt8)) (acc:List Ins),(parseF ls acc).1.length≤acc.length+ls.length
 | [],acc=>by rw[parseF];exact Nat.le_add_right _ _
 | [l],acc=>by
  rw[parseF]
  split
  ·exact Nat.le_add_right _ _
  ·exact Nat.zero_le _
 |l::l2::ls,acc=>by
  rw[parseF]
  split
  ·have:=parseF_len (l2::ls) (acc++ [‹Ins›])
   simp at this ⊢
   omega
  ·exact Nat.zero_le _
theorem ctexts_walk (w:World) {C:Ctx} (hC:C.E=EN w 8) (h0:C.w0.nx=0) (L:List Ins) (hL:L.length≤140737488351232) (s:List UInt8) (hs:s.length≤5000∨40000<s.length∧s.length≤41000)
  (T:List UInt8) (Te:Int) (p:List Ins) (pn pe:Int) (M:List Ins) (Me:Int)
  (hg:VSpec (EN w 8) 12 [.sl 3 L.length (insD L)] (.sc (.bool false)) ⟨[],0,0⟩)
  (t1:VSpec (EN w 8) 13 [.sl 3 L.length (insD L)] (.tup [strV T,.sc (.int .i64 Te)]) ⟨[],0,0⟩)
  (t2:VSpec (EN w 8) 14 [.sl 3 L.length (insD L)] (.tup [strV T,.sc (.int .i64 Te)]) ⟨[],0,0⟩)
  (p1:VSpec (EN w 8) 15 [strV s] (.tup [.sl 3 p.length (insD p),.sc (.int .i64 pn),.sc (.int .i64 pe)]) ⟨[],0,0⟩)
  (p2:VSpec (EN w 8) 16 [strV s] (.tup [.sl 3 p.length (insD p),.sc (.int .i64 pn),.sc (.int .i64 pe)]) ⟨[],0,0⟩)
  (m1:VSpec (EN w 8) 17 [.sl 3 L.length (insD L)] (.tup [.sl 3 M.length (insD M),.sc (.int .i64 Me)]) ⟨[],0,0⟩)
  (m2:VSpec (EN w 8) 18 [.sl 3 L.length (insD L)] (.tup [.sl 3 M.length (insD M),.sc (.int .i64 Me)]) ⟨[],0,0⟩)
  (s1:VSpec (EN w 8) 19 [.sl 3 p.length (insD p),.sl 3 p.length (insD p)] (.sc (.bool true)) ⟨[],0,0⟩)
  (s2:VSpec (EN w 8) 19 [.sl 3 M.length (insD M),.sl 3 M.length (insD M)] (.sc (.bool true)) ⟨[],0,0⟩):
  gC C c4.code [] (vargs 0 [.sl 3 L.length (insD L),strV s]) ⟨[],0,0⟩ (RetV C c4.res (.sc (.bool true)) ⟨[],0,0⟩):=by
 have hsz:=mk_size s
 rcases hs with hs|⟨hs1,hs2⟩
 all_goals
  repeat' (first|(simp (disch:=first|omega|assumption|exact bd (by with_unfolding_all rfl)|exact Or.inl rfl|(simp only[VVlen]<;>omega)|fail) only[O1,WA,slotsL,opdsA,Nat.reduceEqDiff,Nat.reduceLT,Nat.reduceAdd,Nat.reduceBEq,Int.reduceAdd,Int.reduceSub,Int.reduceLT,Int.reduceLE,Int.reduceEq,Int.reduceNeg,↓reduceIte,reduceCtorEq,List.replicate,c4,hsz])|apply gC_drawW|((first|apply gI_dec|apply gG_dec|apply gPG_dec|apply gI_var|apply gG_var|apply gPG_var)<;>intro _))
  refine callV_flat (by rw[hC];exact hg.flat rfl rfl) ?_
  repeat' (first|(simp (disch:=first|omega|assumption|exact bd (by with_unfolding_all rfl)|exact Or.inl rfl|(simp only[VVlen]<;>omega)|fail) only[O1,WA,slotsL,opdsA,Nat.reduceEqDiff,Nat.reduceLT,Nat.reduceAdd,Nat.reduceBEq,Int.reduceAdd,Int.reduceSub,Int.reduceLT,Int.reduceLE,Int.reduceEq,Int.reduceNeg,↓reduceIte,reduceCtorEq,List.replicate,hsz])|apply gC_drawW|((first|apply gI_dec|apply gG_dec|apply gPG_dec|apply gI_var|apply gG_var|apply gPG_var)<;>intro _))
  all_goals try (exfalso;omega)
  refine callV_flat (by rw[hC];exact t1.flat rfl rfl) ?_
  repeat' (first|(simp (disch:=first|omega|assumption|exact bd (by with_unfolding_all rfl)|exact Or.inl rfl|(simp only[VVlen]<;>omega)|fail) only[O1,WA,slotsL,opdsA,Nat.reduceEqDiff,Nat.reduceLT,Nat.reduceAdd,Nat.reduceBEq,Int.reduceAdd,Int.reduceSub,Int.reduceLT,Int.reduceLE,Int.reduceEq,Int.reduceNeg,↓reduceIte,reduceCtorEq,List.replicate])|apply gC_drawW|((first|apply gI_dec|apply gG_dec|apply gPG_dec|apply gI_var|apply gG_var|apply gPG_var)<;>intro _))
  refine callV_flat (by rw[hC];exact t2.flat rfl rfl) ?_
  repeat' (first|(simp (disch:=first|omega|assumption|exact bd (by with_unfolding_all rfl)|exact Or.inl rfl|(simp only[VVlen]<;>omega)|fail) only[O1,WA,slotsL,opdsA,Nat.reduceEqDiff,Nat.reduceLT,Nat.reduceAdd,Nat.reduceBEq,Int.reduceAdd,Int.reduceSub,Int.reduceLT,Int.reduceLE,Int.reduceEq,Int.reduceNeg,↓reduceIte,reduceCtorEq,List.replicate])|apply gC_drawW|((first|apply gI_dec|apply gG_dec|apply gPG_dec|apply gI_var|apply gG_var|apply gPG_var)<;>intro _))
  refine callV_fin (by rw[hC];exact p1) rfl rfl (fun _=>rfl) ?_
  repeat' (first|(simp (disch:=first|omega|assumption|exact bd (by with_unfolding_all rfl)|exact Or.inl rfl|(simp only[VVlen]<;>omega)|fail) only[O1,WA,slotsL,opdsA,Nat.reduceEqDiff,Nat.reduceLT,Nat.reduceAdd,Nat.reduceBEq,Int.reduceAdd,Int.reduceSub,Int.reduceLT,Int.reduceLE,Int.reduceEq,Int.reduceNeg,↓reduceIte,reduceCtorEq,List.replicate])|apply gC_drawW|((first|apply gI_dec|apply gG_dec|apply gPG_dec|apply gI_var|apply gG_var|apply gPG_var)<;>intro _))
  refine callV_fin (by rw[hC];exact p2) rfl rfl (fun _=>rfl) ?_
  repeat' (first|(simp (disch:=first|omega|assumption|exact bd (by with_unfolding_all rfl)|exact Or.inl rfl|(simp only[VVlen]<;>omega)|fail) only[O1,WA,slotsL,opdsA,Nat.reduceEqDiff,Nat.reduceLT,Nat.reduceAdd,Nat.reduceBEq,Int.reduceAdd,Int.reduceSub,Int.reduceLT,Int.reduceLE,Int.reduceEq,Int.reduceNeg,↓reduceIte,reduceCtorEq,List.replicate])|apply gC_drawW|((first|apply gI_dec|apply gG_dec|apply gPG_dec|apply gI_var|apply gG_var|apply gPG_var)<;>intro _))
  refine callV_fin (by rw[hC];exact m1) rfl rfl (fun _=>rfl) ?_
  repeat' (first|(simp (disch:=first|omega|assumption|exact bd (by with_unfolding_all rfl)|exact Or.inl rfl|(simp only[VVlen]<;>omega)|fail) only[O1,WA,slotsL,opdsA,Nat.reduceEqDiff,Nat.reduceLT,Nat.reduceAdd,Nat.reduceBEq,Int.reduceAdd,Int.reduceSub,Int.reduceLT,Int.reduceLE,Int.reduceEq,Int.reduceNeg,↓reduceIte,reduceCtorEq,List.replicate])|apply gC_drawW|((first|apply gI_dec|apply gG_dec|apply gPG_dec|apply gI_var|apply gG_var|apply gPG_var)<;>intro _))
  refine callV_fin (by rw[hC];exact m2) rfl rfl (fun _=>rfl) ?_
  repeat' (first|(simp (disch:=first|omega|assumption|exact bd (by with_unfolding_all rfl)|exact Or.inl rfl|(simp only[VVlen]<;>omega)|fail) only[O1,WA,slotsL,opdsA,Nat.reduceEqDiff,Nat.reduceLT,Nat.reduceAdd,Nat.reduceBEq,Int.reduceAdd,Int.reduceSub,Int.reduceLT,Int.reduceLE,Int.reduceEq,Int.reduceNeg,↓reduceIte,reduceCtorEq,List.replicate])|apply gC_drawW|((first|apply gI_dec|apply gG_dec|apply gPG_dec|apply gI_var|apply gG_var|apply gPG_var)<;>intro _))
  refine callV_flat (by rw[hC];exact s1.flat rfl rfl) ?_
  repeat' (first|(simp (disch:=first|omega|assumption|exact bd (by with_unfolding_all rfl)|exact Or.inl rfl|(simp only[VVlen]<;>omega)|fail) only[O1,WA,slotsL,opdsA,Nat.reduceEqDiff,Nat.reduceLT,Nat.reduceAdd,Nat.reduceBEq,Int.reduceAdd,Int.reduceSub,Int.reduceLT,Int.reduceLE,Int.reduceEq,Int.reduceNeg,↓reduceIte,reduceCtorEq,List.replicate])|apply gC_drawW|((first|apply gI_dec|apply gG_dec|apply gPG_dec|apply gI_var|apply gG_var|apply gPG_var)<;>intro _))
  refine callV_flat (by rw[hC];exact s2.flat rfl rfl) ?_
  repeat' (first|(simp (disch:=first|omega|assumption|exact bd (by with_unfolding_all rfl)|exact Or.inl rfl|(simp only[VVlen]<;>omega)|fail) only[O1,WA,slotsL,opdsA,Nat.reduceEqDiff,Nat.reduceLT,Nat.reduceAdd,Nat.reduceBEq,Int.reduceAdd,Int.reduceSub,Int.reduceLT,Int.reduceLE,Int.reduceEq,Int.reduceNeg,↓reduceIte,reduceCtorEq,List.replicate])|apply gC_drawW|((first|apply gI_dec|apply gG_dec|apply gPG_dec|apply gI_var|apply gG_var|apply gPG_var)<;>intro _))
  all_goals exact weak_flat rfl h0 rfl
theorem parseT_len (s:List UInt8):(parseT s).1.length≤s.length+1:=by
 unfold parseT
 split
 ·exact Nat.zero_le _
 ·have h1:=parseF_len (words 10 s) []
  have h2:=(words_len (c:=10) s.length (s:=s) (Nat.le_refl _)).1
  simp only[List.length_nil,Nat.zero_add] at h1
  omega
theorem mirF_len (L:List Ins):(mirF L).1.length≤L.length:=by
 unfold mirF
 split
 ·exact Nat.zero_le _
 ·split
  ·simp
  ·exact Nat.zero_le _
theorem ctexts_g (w:World) (L:List Ins) (s:List UInt8) (hL:L.length≤140737488351232) (hs:s.length≤140737488351232)
  (hes:(errO Tryd.prog w "strconv.ErrSyntax").isSome=true) (her:(errO Tryd.prog w "strconv.ErrRange").isSome=true) {C:Ctx} (hC:C.E=EN w 8) (h0:C.w0.nx=0):
  gC C c4.code [] (vargs 0 [.sl 3 L.length (insD L),strV s]) ⟨[],0,0⟩ (RetV C c4.res (.sc (.bool true)) ⟨[],0,0⟩):=by
 have hg:=rlong_p w 7 3 L hL
 have hsz:=mk_size s
 by_cases hlg:300<L.length∧L.length≤2000∨2100<L.length
 ·rw[decide_eq_true hlg] at hg
  simp (disch:=first|omega|assumption|exact bd (by with_unfolding_all rfl)|exact Or.inl rfl|(simp only[VVlen]<;>omega)|fail) only[O1,WA,slotsL,opdsA,Nat.reduceEqDiff,Nat.reduceLT,Nat.reduceAdd,Nat.reduceBEq,Int.reduceAdd,Int.reduceSub,Int.reduceLT,Int.reduceLE,Int.reduceEq,Int.reduceNeg,↓reduceIte,reduceCtorEq,List.replicate,c4,hsz]
  refine callV_flat (by rw[hC];exact hg.flat rfl rfl) ?_
  simp (disch:=first|omega|assumption|exact bd (by with_unfolding_all rfl)|exact Or.inl rfl|(simp only[VVlen]<;>omega)|fail) only[O1,WA,slotsL,opdsA,Nat.reduceEqDiff,Nat.reduceLT,Nat.reduceAdd,Nat.reduceBEq,Int.reduceAdd,Int.reduceSub,Int.reduceLT,Int.reduceLE,Int.reduceEq,Int.reduceNeg,↓reduceIte,reduceCtorEq,List.replicate,hsz]
  all_goals try (exfalso;omega)
  all_goals exact weak_flat rfl h0 rfl
 rw[decide_eq_false hlg] at hg
 by_cases hss:s.length≤5000∨40000<s.length∧s.length≤41000
 ·have hml:=mirF_len L
  have hpl:=parseT_len s
  exact ctexts_walk w hC h0 L hL s hss (textsF L).1 (textsF L).2 (parseT s).1 (parseT s).2.1 (parseT s).2.2 (mirF L).1 (mirF L).2 hg (ctext_p w 3 3 L hL) (rtext_p w 3 3 L hL) (cparse_p w 1 hes her s (by omega)) (rparse_p w 2 s (by omega)) (cmirror_p w 2 3 L hL) (rmirror_p w 5 3 L hL) (rsame_p w 7 3 3 _ (by omega)) (rsame_p w 7 3 3 _ (by omega))
 ·by_cases h5:5000<s.length∧s.length≤40000
  ·obtain ⟨h5,h6⟩:=h5
   simp (disch:=first|omega|assumption|exact bd (by with_unfolding_all rfl)|exact Or.inl rfl|(simp only[VVlen]<;>omega)|fail) only[O1,WA,slotsL,opdsA,Nat.reduceEqDiff,Nat.reduceLT,Nat.reduceAdd,Nat.reduceBEq,Int.reduceAdd,Int.reduceSub,Int.reduceLT,Int.reduceLE,Int.reduceEq,Int.reduceNeg,↓reduceIte,reduceCtorEq,List.replicate,c4,hsz]
   refine callV_flat (by rw[hC];exact hg.flat rfl rfl) ?_
   simp (disch:=first|omega|assumption|exact bd (by with_unfolding_all rfl)|exact Or.inl rfl|(simp only[VVlen]<;>omega)|fail) only[O1,WA,slotsL,opdsA,Nat.reduceEqDiff,Nat.reduceLT,Nat.reduceAdd,Nat.reduceBEq,Int.reduceAdd,Int.reduceSub,Int.reduceLT,Int.reduceLE,Int.reduceEq,Int.reduceNeg,↓reduceIte,reduceCtorEq,List.replicate,hsz]
   all_goals try (exfalso;omega)
   all_goals exact weak_flat rfl h0 rfl
  ·have h7:41000<s.length:=by omega
   simp (disch:=first|omega|assumption|exact bd (by with_unfolding_all rfl)|exact Or.inl rfl|(simp only[VVlen]<;>omega)|fail) only[O1,WA,slotsL,opdsA,Nat.reduceEqDiff,Nat.reduceLT,Nat.reduceAdd,Nat.reduceBEq,Int.reduceAdd,Int.reduceSub,Int.reduceLT,Int.reduceLE,Int.reduceEq,Int.reduceNeg,↓reduceIte,reduceCtorEq,List.replicate,c4,hsz]
   refine callV_flat (by rw[hC];exact hg.flat rfl rfl) ?_
   simp (disch:=first|omega|assumption|exact bd (by with_unfolding_all rfl)|exact Or.inl rfl|(simp only[VVlen]<;>omega)|fail) only[O1,WA,slotsL,opdsA,Nat.reduceEqDiff,Nat.reduceLT,Nat.reduceAdd,Nat.reduceBEq,Int.reduceAdd,Int.reduceSub,Int.reduceLT,Int.reduceLE,Int.reduceEq,Int.reduceNeg,↓reduceIte,reduceCtorEq,List.replicate,hsz]
   all_goals try (exfalso;omega)
   all_goals exact weak_flat rfl h0 rfl
end Go.Proofs.YtbefpfbidgfipaaDoor
namespace Go.Proofs.YtbefpfbidgfipaaDoor
open Go Go.Itp
open Go.ChangeShapes Go.WideShapes Go.ChangeAt Go.RowKit
set_option linter.unusedVariables false
set_option maxRecDepth 100000
set_option maxHeartbeats 4000000
theorem reach_lt:reachBytes≤140737488351232:=by decide
theorem dec_instr {H:Type} {enc:TypeId × Value→H} {W:World} {held:Bool} (cs:List Value) (n:Nat) (y:DataW H × List MemPlace) (hl:cs.length=7) (h:DataW.trod enc Tryd.prog W 0 (fun _=>true) held n 23 cs=some y):∃ i:Ins,cs=insC i:=by
 obtain ⟨m,a0,a1,a2,a3,a4,a5,a6,rfl,⟨y0,h0⟩,⟨y1,h1⟩,⟨y2,h2⟩,⟨y3,h3⟩,⟨y4,h4⟩,⟨y5,h5⟩,y6,h6⟩:=dec_seven Tryd.underlying23 rfl rfl rfl rfl rfl rfl rfl (by kernel_rfl) (by kernel_rfl) (by kernel_rfl) (by kernel_rfl) (by kernel_rfl) (by kernel_rfl) (by kernel_rfl) cs n y hl h
 obtain ⟨x0,k0,_,j0⟩:=DataW.trod_int Tryd.underlying5 h0
 obtain ⟨x1,k1⟩:=dec_bool Tryd.underlying4 _ _ _ h1
 obtain ⟨x2,k2,_,j2⟩:=DataW.trod_int Tryd.underlying5 h2
 obtain ⟨x3,k3,_⟩:=DataW.trod_int Tryd.underlying3 h3
 obtain ⟨x4,k4,_⟩:=DataW.trod_int Tryd.underlying3 h4
 obtain ⟨x5,k5,_⟩:=DataW.trod_int Tryd.underlying3 h5
 obtain ⟨x6,k6,_⟩:=DataW.trod_int Tryd.underlying3 h6
 simp only[List.cons.injEq,and_true] at k0 k2 k3 k4 k5 k6
 have b0:=wf8 j0
 have b2:=wf8 j2
 obtain ⟨u0,rfl⟩:=Int.eq_ofNat_of_zero_le b0.1
 obtain ⟨u2,rfl⟩:=Int.eq_ofNat_of_zero_le b2.1
 exact ⟨⟨u0,x1,u2,x3,x4,x5,x6⟩,by rw[k0,k1,k2,k3,k4,k5,k6];rfl⟩
theorem cellsJ:Tryd.prog.cellsOf 23=7:=by kernel_rfl
theorem bytesJ:Tryd.prog.bytesOf 23=40:=by kernel_rfl
def listed:List (String × DataW Unit):= [("math/bits.deBruijn32tab",Rows.laid_math_bits_deBruijn32tab),("math/bits.deBruijn64tab",Rows.laid_math_bits_deBruijn64tab),("internal/strconv.uint64pow10",Rows.laid_internal_strconv_uint64pow10),("strconv.ErrRange",Rows.laid_strconv_ErrRange),("strconv.ErrSyntax",Rows.laid_strconv_ErrSyntax)]
theorem listed_met (os:Os) (args:Array Value):laidMetH Tryd.prog listed ((World.laidAll Tryd.prog os listed).forCall (fun _ _=>0) ⟨#[],args,[]⟩).memory:=by
 rw[MakeChecks.laidMetH_plain _ _ _ (by kernel_rfl)]
 exact laidMet_laidAll _ (by kernel_rfl) (by kernel_rfl)
theorem listed_shaped (os:Os):(World.laidAll Tryd.prog os listed).Shaped Tryd.prog:=World.shaped_of_ZipB (by kernel_rfl) (by kernel_rfl)
theorem stand_ins {l:List TypeId} {t:TypeId} (hall:(l.all fun u=> !Tryd.prog.wantsStandIn u)=true) (h:t ∈ l):Tryd.prog.wantsStandIn t=false:=by
 have:=List.all_eq_true.1 hall t h
 simpa using this
theorem ctexts_lifted (os:Os) (started:os.Started) (H:Type) (enc:TypeId × Value→H):
  ReturnsInHanded {} Tryd.checked os 4 .any (fun w args=>(Rows.codeTextsSpec.pre enc Tryd.prog Tryd.f4 [] false w args∧laidMetH Tryd.prog listed w)∧sizedMet enc Tryd.prog Tryd.f4 (OpenSpec.ofChange Rows.codeTextsSpec) false w args)
   (Rows.codeTextsSpec.post enc Tryd.prog Tryd.f4 false true false false):=by
 refine returnsInHanded_of_change_and (C:=Tryd.checked) (X:=fun w _=>laidMetH Tryd.prog listed w) (fun _ _ _ hh h=>h.of_heap hh) own started (by kernel_rfl) Tryd.func4
  (ChangeSpec.witness_shaped (enc:=enc) (C:=Tryd.checked) (os:=os) (X:=fun w _=>laidMetH Tryd.prog listed w) false (World.laidAll Tryd.prog os listed) #[.slice none 0 0,.string .empty] 8 (World.laidAll_os _ _ _) (listed_shaped os) (by kernel_rfl) (by kernel_rfl) (by kernel_rfl) (listed_met os _)) ?_
 intro W base args ds gs before hval0 hW _ hsz0 hL _
 have hval:∀ (j:Nat) t v,Tryd.f4.params[j]? =some t→args[j]? =some v→Value.okWide Tryd.prog W .any base t v:=hval0
 have hW':=hW
 obtain ⟨p,q,hA0,hV,rfl,hfz,hnd⟩:=hW
 have hA:DataW.TrodAll enc Tryd.prog W 0 (fun _=>true) true Tryd.f4.params.toList args.toList ds p:=hA0
 have hsz:(DataW.weightsEach Tryd.prog (Tryd.f4.params.toList++Rows.codeTextsSpec.plain.varTypes Tryd.prog) (ds++gs)).all (· ≤reachBytes)=true:=hsz0
 rw[Tryd.params4] at hA hval hsz
 obtain ⟨v0,vs0,d0,ds0,p0,q0,hargs,rfl,rfl,h0,r0⟩:=trodAll_cons hA
 obtain ⟨v1,vs1,d1,ds1,p1,q1,rfl,rfl,rfl,h1,r1⟩:=trodAll_cons r0
 obtain ⟨rfl,rfl,rfl⟩:=trodAll_nil r1
 obtain rfl:args=#[v0,v1]:=by cases args;simp_all
 have hr:=reach_lt
 obtain ⟨l0,hv0,hli0,hlr0⟩:=rd_structs' (α:=Ins) (g:=insC) (q:=7) (by decide) (fun a=>⟨rfl,fun c hc=>by simp[insC] at hc;rcases hc with rfl|rfl|rfl|rfl|rfl|rfl|rfl<;>rfl⟩) Tryd.underlying34 cellsJ (by rw[bytesJ];decide) (hval 0 34 v0 rfl rfl) h0 (weights_at (j:=0) hsz rfl rfl) (fun cs n y hl hy=>dec_instr cs n y hl hy)
 rw[bytesJ] at hlr0
 have hv0:VRep (wOld (oldOf W)) (.sl 3 l0.length (insD l0)) v0:=hv0
 obtain ⟨s1,rfl,hs1⟩:=open_str Tryd.underlying9 (hval 1 9 v1 rfl rfl) h1 (weights_at (j:=1) hsz rfl rfl)
 obtain ⟨x1,rfl⟩:∃ x:List UInt8,s1=⟨x.toArray⟩:=⟨s1.data.toList,by simp⟩
 rw[mk_size] at hs1
 have hLm:laidMet Tryd.prog listed W:=by rw[← MakeChecks.laidMetH_plain _ _ _ (by kernel_rfl)];exact hL
 have htab:Tab W:=laid_tab hLm 2 rfl (g:=3) (t:=129) (e:=107) (k:= .u64) (m:=20) (by kernel_rfl) (by kernel_rfl) Tryd.underlying129 Tryd.underlying107 (by kernel_rfl) (by kernel_rfl) rfl
 have hesy:(errO Tryd.prog W "strconv.ErrSyntax").isSome=true:=laid_errO hLm 4 rfl (g:=1) (t:=65) (by kernel_rfl) (by kernel_rfl) Tryd.underlying65
 have herr:(errO Tryd.prog W "strconv.ErrRange").isSome=true:=laid_errO hLm 3 rfl (g:=2) (t:=65) (by kernel_rfl) (by kernel_rfl) Tryd.underlying65
 obtain ⟨s',hbody⟩:=law_v (old:=oldOf W) (rounds:=many) (fns:=fns) (prims:=PR W) (n:=8) (af:=c4) (xs:= [.sl 3 l0.length (insD l0),.sc (.string ⟨x1.toArray⟩)]) (xsI:= [v0,.string ⟨x1.toArray⟩]) (x:= .bool true) (Nat.le_of_ble_eq_true rfl)
  (by simp only[VRepL];exact ⟨_,_,rfl,hv0,_,_,rfl,.mksc rfl,rfl⟩) fun C hC hn=>ctexts_g W l0 x1 (by omega) (by omega) hesy herr hC hn
 have hfn:fns 4=some c4:=rfl
 have hrv:ids 0 (.bool true)= []:=rfl
 refine (law_of htab (f:=4) (af:=c4) hfn (xs:= [v0,.string ⟨x1.toArray⟩]) (by simp only[idsL_cons,hli0];rfl) _ hbody hrv).mono fun e W' ⟨he,hbe⟩=>?_
 exact ⟨_,he,law_post hW' rfl rfl (by kernel_rfl) (by kernel_rfl) Tryd.underlying4 hbe⟩
theorem ctexts_over:Rows.CodeTextsSaid:=
 OpenClaim.holds_of_wide 4 Tryd.f4 rfl rfl rfl rfl rfl rfl rfl ⟨rfl,rfl,rfl,rfl,rfl⟩ rfl rfl rfl rfl rfl (by kernel_rfl) Tryd.func4 (by kernel_rfl)
  (of_decide_eq_true (by kernel_rfl)) (by unfold Func.isWrapper;first|(rw[if_pos (by decide+kernel)];kernel_rfl)|(rw[if_neg (by decide+kernel)];exact ⟨rfl,rfl⟩))
  (fun os started H enc _=>ctexts_lifted os started H enc)
theorem ctexts_holds:Rows.CodeTextsCardSaid:=
 Claim7.holds_tied_plain_at .later [] [.data,.data,.data,.sentinel,.sentinel] true _ true
  ctexts_over (fun _ h=>by cases h) (by kernel_rfl) (fun _ h=>by cases h) codeTexts_row_tie rfl ⟨rfl,rfl⟩ (by kernel_rfl) rfl
  (fun f fn hf hfn=>by
   obtain rfl:f=4:=Option.some.inj ((show Tryd.prog.funcNamed "raddle/raddlelaw33.CodeTexts"=some 4 by kernel_rfl).symm.trans hf)|>.symm
   obtain rfl:fn=Tryd.f4:=(Option.some.inj (Tryd.func4.symm.trans hfn)).symm
   exact ⟨by kernel_rfl,fun j t ht=>stand_ins (l:= [34,9]) (by kernel_rfl) (by rw[Tryd.params4] at ht;simpa using Array.mem_of_getElem? ht)⟩)
  (by kernel_rfl)
#print axioms ctexts_holds
end Go.Proofs.YtbefpfbidgfipaaDoor
