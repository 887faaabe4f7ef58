/- What is proved: the law KnitlogWhere returns true for every input.
   Texts: V35, V36, V41, V37, V38, V39, V42, V43, V44, V45, V46, V47, V48, V51, V57, V55, V60, V50, V53, V58, V59, V54, V56.
-/
import Derived.Test.YtgohenjcanfolaaGreatDoorPart4
import Derived.Lib.AtoiAll
import Derived.Lib.Atoi
import Derived.Lib.AtoiTie
import Derived.Lib.LaidTab
import Derived.ChangeSame
import Derived.Lib.Join
import Derived.SizedLaws
import Derived.HandedShaped
import Derived.Shelf.Vars
namespace Go.Itp
set_option linter.unusedVariables false
def join (c:UInt8):List (List UInt8)→List UInt8
 | []=> []
 | [w]=>w
 |w::v::ws=>w++c::join c (v::ws)
theorem VSpecO.env {E E':Env} {f:FuncId} {st:VSt} {xs:List V} {v:V} (h:VSpecO E f st xs v) (hp:E'.pcall=E.pcall) (ho:E'.old=E.old):VSpecO E' f st xs v:=by
 have ha:aload E'=aload E:=aload_same ho
 intro s μ F xsI w0 hsr hx
 have hw:wof (C1 E' s w0) ⟨st.own,st.next,st.next⟩ ⟨s.heap,s.next,s.next⟩ μ F=wof (C1 E s w0) ⟨st.own,st.next,st.next⟩ ⟨s.heap,s.next,s.next⟩ μ F:=by
  show (⟨aload E' s.heap,F,μ,st.next⟩:VW)=⟨aload E s.heap,F,μ,st.next⟩
  rw[ha]
 have hsr':SR (C1 E s w0) ⟨st.own,st.next,st.next⟩ ⟨s.heap,s.next,s.next⟩ μ F:=hsr.env (C':=C1 E s w0) ha.symm rfl rfl rfl
 obtain ⟨vI,e,hv⟩:=h s μ F xsI w0 hsr' (by rw[← hw];exact hx)
 exact ⟨vI,by rw[hp];exact e,hv⟩
section
variable {C:Ctx} {st:VSt} {fr:VFr}
theorem weak_freeze {fz:List Nat} (hrow:rowsB st.ro st.own fz=true):Weak C fr st fr ⟨frozA fz st.own,st.next,st.ro⟩:=by
 rintro s frI ⟨μ,F,h1,hf,h3,h4,h5⟩
 obtain ⟨f1,f2⟩:=h1.freeze hrow
 refine ⟨μ,_,f1,fun i u e=>?_,h3.trans f2,h4,fun b hb=>?_⟩
 ·obtain ⟨vI,a,b⟩:=hf i u e
  exact ⟨vI,a,VRep.mono f2 b⟩
 ·rcases h1.fin_ge hrow hb with hb|hb
  ·exact h5 b hb
  ·exact .inr (by rw[← h4];exact hb)
theorem vrep_dv {w:VW} {d:D} {v:Value} (h:VRep w (dv d) v):DRep w d v:=by
 cases d with
 |sc x=>simpa only[dv,VRep,DRep] using h
 |sl s n l=>simpa only[dv,VRep] using h
theorem vrepL_dv {w:VW}:∀ {l:List D} {vs:List Value},VRepL w (dvL l) vs→DRepL w l vs
 | [],vs,h=>by simpa only[dvL,VRepL,DRepL] using h
 |d::r,vs,h=>by
  simp only[dvL,VRepL,DRepL] at h ⊢
  obtain ⟨v,vs',h1,h2,h3⟩:=h
  exact ⟨v,vs',h1,vrep_dv h2,vrepL_dv h3⟩
theorem weak_boxrow {o t e:Nat} {l:List D} (h:aget st.own o=some (.box t e (dvL l))) (hok:okL l=true):Weak C fr st fr ⟨aset st.own o (.row t e false false l),st.next,st.ro⟩:=by
 rintro s frI ⟨μ,F,h1,hf,h3⟩
 have hown:∀ i ob,aget (aset st.own o (.row t e false false l)) i=some ob→(i=o∧ob= .row t e false false l)∨(i ≠ o∧aget st.own i=some ob):=fun i ob e'=>by
  rw[aget_aset _ _ _ _ _ h] at e'
  split at e'
  ·rename_i hi;cases e';exact .inl ⟨hi,rfl⟩
  ·rename_i hi;exact .inr ⟨hi,e'⟩
 refine ⟨μ,F,⟨?_,?_,?_,h1.inj,?_,h1.lt,h1.cl,h1.un,h1.n0,?_,h1.hb,h1.pr,h1.pb⟩,hf,h3⟩
 ·intro i ob e' hn
  rcases hown i ob e' with ⟨rfl,rfl⟩|⟨hi,e1⟩
  ·obtain ⟨b,blk,m1,m2,m3⟩:=h1.obj i _ h rfl
   exact ⟨b,blk,m1,m2,m3.1,m3.2.1,m3.2.2.1,vrepL_dv m3.2.2.2⟩
  ·exact h1.obj i ob e1 hn
 ·intro i ob b e' e2 hz
  rcases hown i ob e' with ⟨rfl,rfl⟩|⟨hi,e1⟩
  ·exact h1.wr i _ b h e2 rfl
  ·exact h1.wr i ob b e1 e2 hz
 ·intro i ob b e' e2 hz
  rcases hown i ob e' with ⟨rfl,rfl⟩|⟨hi,e1⟩
  ·cases hz
  ·exact h1.fz i ob b e1 e2 hz
 ·intro i b e'
  obtain ⟨d1,d2,ob,d3,d4⟩:=h1.dom i b e'
  by_cases hi:i=o
  ·subst hi;exact ⟨d1,d2,_,by simp only;rw[aget_aset _ _ _ _ _ h,if_pos rfl],rfl⟩
  ·exact ⟨d1,d2,ob,by simp only;rw[aget_aset _ _ _ _ _ h,if_neg hi];exact d3,d4⟩
 ·intro i ob e'
  rcases hown i ob e' with ⟨rfl,rfl⟩|⟨hi,e1⟩
  ·exact ⟨(h1.own i _ h).1,hok⟩
  ·exact h1.own i ob e1
end
end Go.Itp
namespace Go.Itp
open Go.Lib
set_option linter.unusedVariables false
def isDig (b:UInt8):Bool:=decide (48≤b.toNat) && decide (b.toNat≤57)
end Go.Itp
namespace Go.Itp
open Go.ChangeShapes Go.WideShapes Go.ChangeAt Go.RowKit
set_option linter.unusedVariables false
theorem flat_at {α β:Type} {g:α→List β} {q:Nat} (hq:0<q):∀ (l:List α),(∀ a ∈ l,(g a).length=q)→∀ i j,j<q→(l.flatMap g)[i*q+j]? =(l[i]?).bind fun a=>(g a)[j]?
 | [],_,i,j,_=>by simp
 |a::r,h,i,j,hj=>by
  have ha:=h a (by simp)
  rw[List.flatMap_cons]
  cases i with
  |zero=>
   rw[Nat.zero_mul,Nat.zero_add,List.getElem?_append_left (by omega)]
   simp
  |succ i=>
   have ih:=flat_at hq r (fun b hb=>h b (List.mem_cons_of_mem _ hb)) i j hj
   rw[Nat.succ_mul,List.getElem?_append_right (by rw[ha];omega),ha,show i*q+q+j - q=i*q+j by omega,ih]
   simp
theorem absV_sc {v:Value} (h:scOK v=true):absV v=v:=by
 unfold absV
 split
 ·simp[scOK] at h
 ·rfl
section
variable {H:Type} {enc:TypeId × Value→H} {P:Program} {W:World} {base:Nat} {held:Bool}
theorem cells_at {w:World} {b:Nat} {a:Addr} {n:Nat} {cs:List Value} (h:w.cells? b a n=some cs):cs.length=n∧∀ j,j<n→w.cell? (a.add j)=cs[j]? :=by
 unfold World.cells? at h
 split at h
 case isFalse=>cases h
 refine ⟨by rw[Lib.mapM_length h,List.length_range],fun j hj=>?_⟩
 obtain ⟨c,h1,h2⟩:=Lib.mapM_at h j j (by rw[List.getElem?_eq_getElem (by simpa using hj)];simp)
 rw[h2,h1]
theorem rd_structs {α:Type} [Inhabited α] {g:α→List Value} {q:Nat} (hq:0<q) (hg:∀ a,(g a).length=q∧∀ c ∈ g a,scOK c=true) {t e:TypeId} {fuel:Nat} {v:Value} {x:DataW H × List MemPlace} (ht:P.underlying t=some (.slice e)) (hc:P.cellsOf e=q) (hby:0<P.bytesOf e)
  (hspot:∀ a n c,v= .slice (some a) n c→a.spot=none)
  (h:DataW.trod enc P W base (fun _=>true) held fuel t [v]=some x) (hsz:∀ n ∈ x.1.weights P t,n≤reachBytes)
  (hdec:∀ (cs:List Value) (n:Nat) (y:DataW H × List MemPlace),cs.length=q→DataW.trod enc P W base (fun _=>true) held n e cs=some y→∃ a,cs=g a):
  ∃ l:List α,VRep (wOld (oldOf W)) (.sl 3 l.length (l.flatMap fun a=>(g a).map D.sc)) v∧ids 0 v= []∧l.length*P.bytesOf e≤reachBytes:=by
 rcases DataW.trod_slice ht h with ⟨h1,_⟩|⟨a,len,cap,elems,rest,n,rfl,h1,rfl,hb,hl,hm,hlen,hel,hsp,_⟩
 ·simp only[List.cons.injEq,and_true] at h1
  subst h1
  refine ⟨[],?_,rfl,by simp⟩
  simp only[VRep,DRep]
  exact .inr ⟨by omega,by trivial,by trivial,.inl (by trivial)⟩
 ·simp only[List.cons.injEq,and_true] at h1
  subst h1
  have hs:=hspot a len cap rfl
  obtain ⟨b,o,sp⟩:=a
  simp only at hs
  subst hs
  obtain ⟨hr1,hr2⟩:=hsp rfl
  have hmax:cap*P.bytesOf e≤reachBytes:=by
   have:=hsz ((elems.length+rest.length)*P.bytesOf e) (by simp[DataW.weights,ht])
   rwa [show elems.length+rest.length=cap by omega] at this
  have hcap:cap≤cap*P.bytesOf e:=Nat.le_mul_of_pos_right _ hby
  have hbig:reachBytes<big:=by decide
  have hone:∀ i,∃ a:α,i<len→∀ j,j<q→W.cell? ⟨b,o+(i*q+j),none⟩=(g a)[j]? :=fun i=>by
   by_cases hi:i<len
   ·have:=hel i hi
    rw[hc,List.getElem?_eq_getElem (by omega)] at this
    simp only[Option.bind_eq_some_iff] at this
    obtain ⟨cs,h2,h3⟩:=this
    obtain ⟨k1,k2⟩:=cells_at h2
    obtain ⟨a,rfl⟩:=hdec cs n _ k1 h3
    refine ⟨a,fun _ j hj=>?_⟩
    have:=k2 j hj
    rw[← this]
    rw[add_plain,add_plain,Nat.add_assoc]
   ·exact ⟨default,fun h=>absurd h hi⟩
  let f:Nat→α:=fun i=>Classical.choose (hone i)
  have hf:∀ i,i<len→∀ j,j<q→W.cell? ⟨b,o+(i*q+j),none⟩=(g (f i))[j]? :=fun i=>Classical.choose_spec (hone i)
  let l:List α:=(List.range len).map f
  have hll:l.length=len:=by simp[l]
  let vals:List Value:=l.flatMap g
  have hvl:vals.length=len*q:=by
   have:∀ l:List α,(l.flatMap g).length=l.length*q:=fun l=>by
    induction l with
    |nil=>simp
    |cons a l ih=>rw[List.flatMap_cons,List.length_append,ih,(hg a).1,List.length_cons,Nat.succ_mul];omega
   rw[show vals.length=l.length*q from this l,hll]
  have hcell:∀ k (hk:k<vals.length),W.cell? ⟨b,o+k,none⟩=some vals[k]:=fun k hk=>by
   rw[hvl] at hk
   have hi:k / q<len:=Nat.div_lt_of_lt_mul (by rw[Nat.mul_comm];exact hk)
   have hj:k % q<q:=Nat.mod_lt _ hq
   have hkk:k / q*q+k % q=k:=by rw[Nat.mul_comm];exact Nat.div_add_mod k q
   have e1:=hf (k / q) hi (k % q) hj
   have e2:=flat_at (g:=g) hq l (fun a _=>(hg a).1) (k / q) (k % q) hj
   rw[hkk] at e1 e2
   have e3:l[k / q]? =some (f (k / q)):=by simp[l,hi]
   rw[e3,Option.bind_some] at e2
   rw[e1,← e2]
   exact List.getElem?_eq_getElem (by rw[hvl];exact hk)
  have hvs:∀ c ∈ vals,scOK c=true:=fun c hcm=>by
   simp only[vals,List.mem_flatMap] at hcm
   obtain ⟨a,_,ha⟩:=hcm
   exact (hg a).2 c ha
  have hmap:(l.flatMap fun a=>(g a).map D.sc)=vals.map D.sc:=by simp only[vals,List.map_flatMap]
  refine ⟨l,?_,rfl,by rw[hll];exact Nat.le_trans (Nat.mul_le_mul_right _ hl) hmax⟩
  rw[hmap,hll]
  simp only[VRep,DRep]
  refine .inl ⟨⟨b,o,none⟩,cap,rfl,trivial,?_,?_,by omega⟩
  ·unfold capOK knownCap
   rw[if_pos (by rw[Nat.blt_eq];omega)]
   exact hl
  ·have:=drepA_old (W:=wOld (oldOf W)) (α:=Value) D.sc (fun v=>v) vals ⟨b,o,none⟩ (fun k hk=>?_) (fun c hcm=>by simp only[DRep];exact ⟨trivial,hvs c hcm⟩)
   ·exact this
   ·have hc1:=hcell k hk
    have hsc:=hvs vals[k] (List.getElem_mem hk)
    have:=abs_plain hc1 (scOK_ids 0 _ hsc) (absV_sc hsc)
    rw[absV_sc hsc] at this
    exact this
end
end Go.Itp
namespace Go.Itp
open Go.Lib
set_option linter.unusedVariables false

end Go.Itp
namespace Go.Itp
open Go.RowKit (Below)
set_option linter.unusedVariables false
set_option linter.constructorNameAsVariable false
section
variable {P:Program} {G:Ghost} {μ:Mu} {s:St} {w:World}
end
section
variable {old:Nat→Nat→Option Value} {rounds:Nat} {fns:FuncId→Option AFun} {prims:FuncId→List Value→St→Option (Value × List Blk)} {n:Nat} {f:FuncId}
end
end Go.Itp
namespace Go.Itp
set_option maxRecDepth 100000
set_option linter.unusedVariables false
section
variable {old:Nat→Nat→Option Value} {fr:VFr} {H:VHp} {nx:Nat} {st:VSt}
end
section
variable {C:Ctx} {st:VSt} {fr:VFr}
end
section
variable {C:Ctx} {st:VSt} {fr:VFr}
end
def rowI (s:Nat) (l:List Int):D:= .sl s l.length (l.map iD)
section
variable {old:Nat→Nat→Option Value}
end
theorem aload_hpush {E:Env} {h:Heap} {n:Nat} {bs:List Blk} {a:Addr} (ha:a.spot=none∨a.block<n):aload E (hpush h n bs) a=aload E h a:=by
 obtain ⟨b,o,sp⟩:=a
 rcases sp with _|_|k
 ·rfl
 ·have hb:b<n:=by simpa using ha
  simp only[aload]
  rw[hget_hpush,if_neg (by omega)]
 ·rfl
theorem VSpec.weak {E:Env} {f:FuncId} {xs:List V} {v v':V} {st1 st2:VSt} (h:VSpec E f xs v st1) (hw:∀ C:Ctx,C.w0.nx=0→Weak C [(0,v)] st1 [(0,v')] st2) (hfl:flatV v'=true→flatV v=true):VSpec E f xs v' st2:=by
 intro s F xsI hF hb hx
 obtain ⟨vI,bs,μ,G,e,g1,g2,g3,g4,g5⟩:=h s F xsI hF hb hx
 have hle:VW.le (noW E s.heap F) (wof (C1 E s (noW E s.heap F)) st1 ⟨hpush s.heap s.next bs,s.next+bs.length,s.next⟩ μ G):=by
  refine ⟨fun a ha=>?_,g4,Nat.zero_le _,fun o b ho e=>absurd ho (Nat.not_lt_zero _)⟩
  refine aload_hpush ?_
  rcases inF_or ha with h1|h1
  ·exact .inl h1
  ·exact .inr (hF _ h1).1
 obtain ⟨μ',G',k1,k2,k3,k4,k5⟩:=hw (C1 E s (noW E s.heap F)) rfl ⟨hpush s.heap s.next bs,s.next+bs.length,s.next⟩ [(0,vI)] ⟨μ,G,g1,fun t u hu=>by
  by_cases ht:t=0
  ·subst ht
   have:v=u:=by simpa [aget] using hu
   subst this
   exact ⟨vI,rfl,g2⟩
  ·exfalso
   cases t with
   |zero=>exact ht rfl
   |succ t=>simp[aget] at hu,hle,rfl,g3⟩
 obtain ⟨uI,a,b⟩:=k2 0 v' rfl
 have:vI=uI:=by simpa [fget] using a
 subst this
 exact ⟨vI,bs,μ',G',e,k1,b,k5,fun b hb=>k3.F b hb,fun hf=>g5 (hfl hf)⟩
theorem VSpec.fin {E:Env} {f:FuncId} {xs:List V} {v v':V} {st1:VSt} (h:VSpec E f xs v st1) (hs:snapV st1.own v=some v') (hrow:rowsB st1.ro st1.own (fzS v)=true) (hro:st1.ro=0) (hren:vren [] v'=v') (hfl:flatV v'=true→flatV v=true):VSpec E f xs v' ⟨[],0,0⟩:=
 h.weak (fun C h0=>(weak_snap (t:=0) rfl hs hrow).trans (weak_to [] 0 h0 hro rfl (by show renF [] [(0,v')]=_;rw[renF_cons,renF_nil,hren]) rfl)) hfl
theorem callV_fin {C:Ctx} {st:VSt} {f:FuncId} {xs:List V} {v:V} {Q:V→VSt→Prop} (h:VSpec C.E f xs v ⟨[],0,0⟩) (hs:snapL st.own xs=some xs) (hz:fzSL xs= []) (hv:∀ k,vsh k v=v) (hq:Q v st):CallV C f xs st Q:=by
 refine callV_of h hs (by rw[hz];rfl) rfl ?_
 rw[hz,hv,frozA_none]
 exact hq
section
variable {C:Ctx} {st:VSt}
theorem VSame.refl (v:V):VSame C st v v:=fun _ _ _ _ _ h=>h
def VSameL (C:Ctx) (st:VSt) (l l':List V):Prop:=∀ s μ F vs,SR C st s μ F→VRepL (wof C st s μ F) l vs→VRepL (wof C st s μ F) l' vs
theorem VSameL.nil:VSameL C st [] []:=fun _ _ _ _ _ h=>h
theorem VSameL.cons {a a':V} {l l':List V} (h:VSame C st a a') (k:VSameL C st l l'):VSameL C st (a::l) (a'::l'):=fun s μ F vs hs hv=>by
 simp only[VRepL] at hv ⊢
 obtain ⟨u,us,rfl,h1,h2⟩:=hv
 exact ⟨u,us,rfl,h s μ F u hs h1,k s μ F us hs h2⟩
end
theorem VSpec.same {E:Env} {f:FuncId} {xs:List V} {v v':V} {st1:VSt} (h:VSpec E f xs v st1) (hv:∀ C:Ctx,VSame C st1 v v') (hfl:flatV v'=true→flatV v=true):VSpec E f xs v' st1:=
 h.weak (fun C _=>weak_slot (t:=0) (v:=v) (v':=v') rfl (hv C)) hfl
section
variable {old:Nat→Nat→Option Value} {rounds:Nat} {fns:FuncId→Option AFun} {prims:FuncId→List Value→St→Option (Value × List Blk)} {n:Nat} {f:FuncId} {xs:List V} {af:AFun}
end
section
variable {C:Ctx} {st:VSt} {fr:VFr}
end
set_option linter.constructorNameAsVariable false
structure OwnF (f:Nat→V) (ob:Obj) (N:Nat) (L:List D):Prop where
 how:(∃ t,ob= .gro t 1 false L∧f=(fun o=> .gr 2 o N)∧N ≠ 0∧L ≠ [])∨(∃ t c,ob= .row t 1 false false L∧f=fun o=> .ref o 0 N c)
 len:L.length=N
 sc:∀ d ∈ L,∃ x,d= .sc x
theorem OwnF.gr {t N:Nat} {L:List D} (h:N ≠ 0) (hl:L.length=N) (hs:∀ d ∈ L,∃ x,d= .sc x):OwnF (fun o=> .gr 2 o N) (.gro t 1 false L) N L:=⟨.inl ⟨t,rfl,rfl,h,fun e=>h (by rw[← hl,e];rfl)⟩,hl,hs⟩
theorem OwnF.ref {t N c:Nat} {L:List D} (hl:L.length=N) (hs:∀ d ∈ L,∃ x,d= .sc x):OwnF (fun o=> .ref o 0 N c) (.row t 1 false false L) N L:=⟨.inr ⟨t,c,rfl,rfl⟩,hl,hs⟩
section
variable {f:Nat→V} {ob:Obj} {N:Nat} {L:List D}
theorem OwnF.facts (h:OwnF f ob N L):ob.none=false∧ob.fz=false∧ob.ok=true:=by
 have hok:okL L=true:=by
  simp only[okL,List.all_eq_true]
  intro d hd
  obtain ⟨x,rfl⟩:=h.sc d hd
  rfl
 rcases h.how with ⟨t,rfl,rfl,h1,h2⟩|⟨t,c,rfl,rfl⟩
 ·exact ⟨by cases L with|nil=>exact absurd rfl h2|cons=>rfl,rfl,hok⟩
 ·exact ⟨rfl,rfl,hok⟩
theorem OwnF.row (h:OwnF f ob N L) {H:VHp} {ro o:Nat} {r:List Nat} (ho:aget H o=some ob) (hro:ro≤o) (hr:rowsB ro H r=true):rowsB ro H (o::r)=true:=by
 rcases h.how with ⟨t,rfl,rfl,h1,h2⟩|⟨t,c,rfl,rfl⟩
 ·exact rowsB_gro ro H o _ _ _ _ r ho hro hr
 ·exact rowsB_row ro H o _ _ _ _ _ r ho hro hr
theorem OwnF.one (h:OwnF f ob N L) (o:Nat):oneV (f o)=true:=by
 rcases h.how with ⟨t,rfl,rfl,h1,h2⟩|⟨t,c,rfl,rfl⟩<;>rfl
theorem OwnF.val (h:OwnF f ob N L) {C:Ctx} {st:VSt} {s:St} {μ:Nat→Option Nat} {F:Nat→Prop} {o:Nat} {uI:Value} (hsr:SR C st s μ F) (ho:aget st.own o=some ob) (hro:st.ro≤o) (hv:VRep (wof C st s μ F) (f o) uI):
  ∃ b blk c,μ o=some b∧s.prot≤b∧hget s.heap b=some blk∧(∀ n,idsL n blk.cells= [])∧uI= .slice (some ⟨b,0,some 0⟩) N c∧(∀ (w:VW) (o' b':Nat),o'<w.nx→w.μ o'=some b'→VRep w (f o') (.slice (some ⟨b',0,some 0⟩) N c))∧∀ w,ORep w ob blk:=by
 obtain ⟨b,blk,m1,m2,m3⟩:=hsr.obj o _ ho h.facts.1
 have hb:s.prot≤b:=hsr.pb o b m1 hro
 rcases h.how with ⟨t,rfl,rfl,h1,h2⟩|⟨t,c,rfl,rfl⟩
 ·obtain ⟨r1,r2,r3⟩:=drepL_sc m3.2.2.2 h.sc
  simp only[VRep] at hv
  obtain ⟨_,⟨h0,_⟩|⟨_,b',rfl,q⟩⟩:=hv
  ·exact absurd h0 h1
  have:=q b m1
  subst this
  refine ⟨b',blk,big+N,m1,hb,m2,r1,rfl,fun w o' b'' k1 k2=>?_,fun w=>⟨m3.1,m3.2.1,m3.2.2.1,r3 w⟩⟩
  simp only[VRep]
  exact ⟨k1,.inr ⟨h1,b'',rfl,fun b hb=>by rw[k2] at hb;cases hb;rfl⟩⟩
 ·obtain ⟨r1,r2,r3⟩:=drepL_sc m3.2.2.2 h.sc
  simp only[VRep] at hv
  obtain ⟨_,hcap,b',rfl,q⟩:=hv
  have:=q b m1
  subst this
  refine ⟨b',blk,c,m1,hb,m2,r1,rfl,fun w o' b'' k1 k2=>?_,fun w=>⟨m3.1,m3.2.1,m3.2.2.1,r3 w⟩⟩
  simp only[VRep]
  exact ⟨k1,hcap,b'',rfl,fun b hb=>by rw[k2] at hb;cases hb;rfl⟩
end
section
variable {old:Nat→Nat→Option Value} {rounds:Nat} {fns:FuncId→Option AFun} {prims:FuncId→List Value→St→Option (Value × List Blk)} {n:Nat} {f:FuncId} {xs:List V} {af:AFun}
end
section
variable {C:Ctx} {st:VSt} {fr:VFr}
theorem snap_refE {H:VHp} {o n c t e:Nat} {g z:Bool} {l:List D} (h:aget H o=some (.row t e g z l)) (hl:l.length=n*e):snapV H (.ref o 0 n c)=some (.sl 0 n l):=by
 simp only[snapV,toD,h]
 rw[if_pos (by omega),List.drop_zero,List.take_of_length_le (by omega)]
 rfl
theorem same_fzE {o n c t e:Nat} {g:Bool} {l:List D} (ho:aget st.own o=some (.row t e g true l)) (hl:l.length=n*e):VSame C st (.ref o 0 n c) (.sl 0 n l):=by
 intro s μ F u h1 hv
 refine snap_ok (w:=wof C st s μ F) (w1:=wof C st s μ F) h1.hr (VW.le.refl _) rfl rfl hv (snap_refE ho hl) (fun j hj b e=>?_) (fun j hj b e k sp blk hb=>aload_blk (E:=C.E) hb)
 simp only[fzS,List.mem_singleton] at hj
 subst hj
 exact h1.fz j _ b ho e rfl
theorem weak_fzCell {o g t e k:Nat} {l:List V} {u u':V} {ob ob':Obj} (ho:aget st.own o=some (.box t e l)) (hk:l[k]? =some u) (hg:aget st.own g=some ob) (hb:ob.froz=ob') (hog:o ≠ g) (hs:VSame C ⟨frozA [g] st.own,st.next,st.ro⟩ u u') (hrow:rowsB st.ro st.own [g]=true):
  Weak C fr st fr ⟨aset (frozA [g] st.own) o (.box t e (l.set k u')),st.next,st.ro⟩:=by
 have h2:aget (frozA [g] st.own) o=some (.box t e l):=by
  have:¬ elemB o [g]=true:=fun h=>hog (by simpa using (elemB_iff _ _).1 h)
  rw[frozA_get,ho,Option.map_some,if_neg this]
 refine (weak_freeze hrow).trans ?_
 exact weak_cell (st:=⟨frozA [g] st.own,st.next,st.ro⟩) h2 hk hs
end
section
variable {C:Ctx} {st:VSt} {fr:VFr}
theorem weak_rowbox {o t e:Nat} {l:List D} (h:aget st.own o=some (.row t e false false l)):Weak C fr st fr ⟨aset st.own o (.box t e (dvL l)),st.next,st.ro⟩:=by
 rintro s frI ⟨μ,F,h1,hf,h3⟩
 have hown:∀ i ob,aget (aset st.own o (.box t e (dvL l))) i=some ob→(i=o∧ob= .box t e (dvL l))∨(i ≠ o∧aget st.own i=some ob):=fun i ob e'=>by
  rw[aget_aset _ _ _ _ _ h] at e'
  split at e'
  ·rename_i hi;cases e';exact .inl ⟨hi,rfl⟩
  ·rename_i hi;exact .inr ⟨hi,e'⟩
 refine ⟨μ,F,⟨?_,?_,?_,h1.inj,?_,h1.lt,h1.cl,h1.un,h1.n0,?_,h1.hb,h1.pr,h1.pb⟩,hf,h3⟩
 ·intro i ob e' hn
  rcases hown i ob e' with ⟨rfl,rfl⟩|⟨hi,e1⟩
  ·obtain ⟨b,blk,m1,m2,m3⟩:=h1.obj i _ h rfl
   exact ⟨b,blk,m1,m2,m3.1,m3.2.1,m3.2.2.1,dvL_rep m3.2.2.2⟩
  ·exact h1.obj i ob e1 hn
 ·intro i ob b e' e2 hz
  rcases hown i ob e' with ⟨rfl,rfl⟩|⟨hi,e1⟩
  ·exact h1.wr i _ b h e2 rfl
  ·exact h1.wr i ob b e1 e2 hz
 ·intro i ob b e' e2 hz
  rcases hown i ob e' with ⟨rfl,rfl⟩|⟨hi,e1⟩
  ·cases hz
  ·exact h1.fz i ob b e1 e2 hz
 ·intro i b e'
  obtain ⟨d1,d2,ob,d3,d4⟩:=h1.dom i b e'
  by_cases hi:i=o
  ·subst hi;exact ⟨d1,d2,_,by simp only;rw[aget_aset _ _ _ _ _ h,if_pos rfl],rfl⟩
  ·exact ⟨d1,d2,ob,by simp only;rw[aget_aset _ _ _ _ _ h,if_neg hi];exact d3,d4⟩
 ·intro i ob e'
  rcases hown i ob e' with ⟨rfl,rfl⟩|⟨hi,e1⟩
  ·exact ⟨(h1.own i _ h).1,rfl⟩
  ·exact h1.own i ob e1
end
section
variable {C:Ctx} {K:List KF} {fr:VFr} {st:VSt} {P:VPost}
theorem callR_last {f:FuncId} {vs:List V} {H:VHp} {nx:Nat} {Q0:V→List Obj→Prop} {Q:V→Prop} {v:V} {p r:Prop} (hp:p) (hr:r) (h:VSpec C.E f vs v ⟨[],0,0⟩) (hs:snapL st.own vs=some vs) (hz:fzSL vs= []) (hv:∀ k,vsh k v=v) (hQ:Q v):CallR C f vs H nx Q0 (p∧r∧FinC C f vs st Q):= .inr ⟨hp,hr,finC_of h hs hz hv hQ⟩
theorem gT_nil (tail:List AOper) (ks:List Nat):gT C [] tail ks K fr st P=gO C tail ks K fr st P:=(rfl)
def gTV (C:Ctx) (v:Option V) (d:Option Nat) (l:List AOper) (tail:List AOper) (ks:List Nat) (K:List KF) (fr:VFr) (st:VSt) (P:VPost):Prop:=match v with|some v=>gT C l tail ks K (aputO fr d v) st P|none=>False
theorem gTV_some (v:V) (d:Option Nat) (l:List AOper) (tail:List AOper) (ks:List Nat):gTV C (some v) d l tail ks K fr st P=gT C l tail ks K (aputO fr d v) st P:=(rfl)
theorem gT_mov (d:Option Nat) (x:Operand) (l:List AOper) (tail:List AOper) (ks:List Nat):gT C (⟨d,none,.mov x⟩::l) tail ks K fr st P=gTV C (vev (akeep (slotsL [x]) fr) x) d l tail ks K fr st P:=by
 simp only[gT,gTV,wpT,stillT,true_and,readsA_none,opdsA,pv_mov]
 cases vev (akeep (slotsL [x]) fr) x<;>rfl
theorem gT_ext (d:Option Nat) (x:Operand) (i:Nat) (l:List AOper) (tail:List AOper) (ks:List Nat):gT C (⟨d,none,.ext x i⟩::l) tail ks K fr st P=gTV C (op1 (extV i) (vev (akeep (slotsL [x]) fr) x)) d l tail ks K fr st P:=by
 simp only[gT,gTV,wpT,stillT,true_and,readsA_none,opdsA,pv_ext]
 cases op1 (extV i) (vev (akeep (slotsL [x]) fr) x)<;>rfl
end
end Go.Itp
namespace Go.Itp
open Go Go.ChangeShapes
set_option linter.unusedVariables false
section
variable {H:Type} {enc:TypeId × Value→H} {P:Program} {W:World} {base:Nat} {held:Bool}
theorem wf8 {z:Int} (h:(Lit.int .u8 z).wf=true):0≤z∧z<256:=by
 simp[Lit.wf,IntKind.min,IntKind.max,IntKind.signed,IntKind.bits] at h
 omega
end
section
variable {H:Type} {enc:TypeId × Value→H} {P:Program} {W:World} {base:Nat} {held:Bool}
theorem dec_four {e:TypeId} {f0 f1 f2 f3:Field} (he:P.underlying e=some (.struct #[f0,f1,f2,f3])) (o0:f0.offset=0) (o1:f1.offset=1) (o2:f2.offset=2) (o3:f3.offset=3)
  (c0:P.cellsOf f0.type=1) (c1:P.cellsOf f1.type=1) (c2:P.cellsOf f2.type=1) (c3:P.cellsOf f3.type=1)
  (cs:List Value) (n:Nat) (y:DataW H × List MemPlace) (hl:cs.length=4) (h:DataW.trod enc P W base (fun _=>true) held n e cs=some y):
  ∃ (m:Nat) (a0 a1 a2 a3:Value),cs= [a0,a1,a2,a3]∧(∃ y,DataW.trod enc P W base (fun _=>true) held m f0.type [a0]=some y)∧(∃ y,DataW.trod enc P W base (fun _=>true) held m f1.type [a1]=some y)∧(∃ y,DataW.trod enc P W base (fun _=>true) held m f2.type [a2]=some y)∧
   ∃ y,DataW.trod enc P W base (fun _=>true) held m f3.type [a3]=some y:=by
 obtain ⟨a0,a1,a2,a3,rfl⟩:∃ a0 a1 a2 a3,cs= [a0,a1,a2,a3]:=by
  rcases cs with _|⟨a0,_|⟨a1,_|⟨a2,_|⟨a3,_|⟨a4,r⟩⟩⟩⟩⟩<;>simp at hl
  exact ⟨a0,a1,a2,a3,rfl⟩
 cases n with
 |zero=>simp[DataW.trod] at h
 |succ n=>
  unfold DataW.trod at h
  simp only[he] at h
  split at h
  case isFalse=>cases h
  simp only[Option.map_eq_some_iff,List.mapM_cons,List.mapM_nil] at h
  obtain ⟨xs,hx,hd⟩:=h
  simp only[o0,o1,o2,o3,c0,c1,c2,c3,List.drop_zero,List.drop_succ_cons,List.take_succ_cons,List.take_zero] at hx
  refine ⟨n,a0,a1,a2,a3,rfl,?_⟩
  cases h0:DataW.trod enc P W base (fun _=>true) held n f0.type [a0] with
  |none=>simp[h0] at hx
  |some y0=>
  cases h1:DataW.trod enc P W base (fun _=>true) held n f1.type [a1] with
  |none=>simp[h0,h1] at hx
  |some y1=>
  cases h2:DataW.trod enc P W base (fun _=>true) held n f2.type [a2] with
  |none=>simp[h0,h1,h2] at hx
  |some y2=>
  cases h3:DataW.trod enc P W base (fun _=>true) held n f3.type [a3] with
  |none=>simp[h0,h1,h2,h3] at hx
  |some y3=>exact ⟨⟨_,rfl⟩,⟨_,rfl⟩,⟨_,rfl⟩,⟨_,rfl⟩⟩
end
end Go.Itp
namespace Go.Itp
open Go Go.ChangeShapes Go.WideShapes Go.ChangeAt Go.RowKit
set_option linter.unusedVariables false
section
variable {H:Type} {enc:TypeId × Value→H} {P:Program} {W:World} {base:Nat} {held:Bool}
end
end Go.Itp
namespace Go.Itp
set_option linter.unusedVariables false
theorem vd_store7 {old:Nat→Nat→Option Value} {f:VFr} {st:VSt} (a x:Operand) (h:Option (List Nat)):vdstep2 old f st (.store 7 a x) h=dStoreA st 7 (vev f a) (vev f x):=vd_storeA 7 rfl a x h
theorem dStAO_gro {st:VSt} {n o k t e:Nat} {ys:List V} {ds l:List D} (hro:st.ro≤o) (hn:n ≠ 0) (hlen:ys.length=n) (hd:ds.length=n) (hds:scDs ys=some ds) (hk:k+n≤l.length):
  dStAO st n o k ys (some (.gro t e false l))=some (.tup [],⟨aset st.own o (.gro t e false (l.take k++ds++l.drop (k+n))),st.next,st.ro⟩,⟨[o],[o],[],false,false⟩):=by
 simp only[dStAO,hds,Option.bind_some]
 rw[if_pos (by simp only[Bool.and_eq_true,Nat.ble_eq,Bool.not_eq_true',nbf];exact ⟨⟨hro,nbeq.2 hlen⟩,hn⟩),putL_mid _ _ _ (by rw[hd];exact hk),hd]
 rfl
theorem dStAO_gro7 (st:VSt) (o k t:Nat) (l:List D) (a b c d e f h:Value) (hro:st.ro≤o) (hk:k+7≤l.length):
  dStAO st 7 o k [.sc a,.sc b,.sc c,.sc d,.sc e,.sc f,.sc h] (some (.gro t 7 false l))=some (.tup [],⟨aset st.own o (.gro t 7 false (l.take k++ [.sc a,.sc b,.sc c,.sc d,.sc e,.sc f,.sc h]++l.drop (k+7))),st.next,st.ro⟩,⟨[o],[o],[],false,false⟩):=
 dStAO_gro hro (by decide) rfl rfl rfl hk
theorem stO_gro7 (st:VSt) (o k t:Nat) (l:List D) (a b c d e f h:Value) (hro:st.ro≤o) (hk:k+7≤l.length):
  stO st 7 o k (.agg [.sc a,.sc b,.sc c,.sc d,.sc e,.sc f,.sc h]) (some (.gro t 7 false l))=some (.tup [],⟨aset st.own o (.gro t 7 false (l.take k++ [.sc a,.sc b,.sc c,.sc d,.sc e,.sc f,.sc h]++l.drop (k+7))),st.next,st.ro⟩):=by
 have hv:vcells (.agg [.sc a,.sc b,.sc c,.sc d,.sc e,.sc f,.sc h])=some [.sc a,.sc b,.sc c,.sc d,.sc e,.sc f,.sc h]:=rfl
 simp only[stO,hv,Option.bind_some]
 rw[if_pos (show Nat.beq _ 7=true from rfl),if_neg (by simp only[Bool.not_eq_true,bleF];exact hro)]
 simp only[fzL,fzV,List.append_nil,elemB,rowsB,Bool.not_true,Bool.or_false]
 rw[if_neg (by simp)]
 simp only[toDL,toD,Option.bind_some,Option.map_some]
 rw[putL_mid _ _ _ (by simpa using hk),frozA_nil]
 rfl
theorem okWide_at {P:Program} {W:World} {t:TypeId} {fs:Array Field} {b:Nat} {l:List Value} {i:Nat} {c:Value} (ht:P.underlying t=some (.struct fs)) (hv:Value.okWide P W .any b t (.agg l.toArray)) (hc:l[i]? =some c):∃ u,Cell.okWide P W .any b u c:=by
 unfold Value.okWide at hv
 rw[ht] at hv
 obtain ⟨cs,e,hcs,ts,_,_,hrow⟩:=hv
 cases e
 obtain ⟨u,_,hu⟩:=hrow i c (by simpa using hc)
 exact ⟨u,hu⟩
end Go.Itp
namespace Go.Itp
open Go.ChangeShapes Go.WideShapes Go.ChangeAt Go.RowKit
set_option linter.unusedVariables false
theorem drepA_of {w:VW}:∀ (L:List D) (a:Addr),(∀ k d,L[k]? =some d→∃ v,w.ld (aadd a k)=some v∧DRep w d v)→DRepA w L a
 | [],a,_=>by simp only[DRepA]
 |d::r,a,h=>by
  simp only[DRepA]
  refine ⟨?_,drepA_of r _ fun k d' hk=>?_⟩
  ·have:=h 0 d rfl
   simpa [aadd] using this
  ·have:=h (k+1) d' hk
   rw[show aadd (aadd a 1) k=aadd a (k+1) from by simp only[aadd,Nat.add_assoc,Nat.add_comm 1 k]]
   exact this
theorem drep_one {w:VW} {n:Nat} {l:List D} {v:Value} (h:DRep w (.sl 3 n l) v):DRep w (.sl 1 n l) v:=by
 simp only[DRep] at h ⊢
 rcases h with ⟨a,c,e,i,k,r,_⟩|⟨_,h2,h3,h4|⟨h4,_⟩⟩
 ·exact .inl ⟨a,c,e,i,k,r,fun h=>by omega⟩
 ·exact .inr ⟨by omega,h2,h3,.inl h4⟩
 ·omega
section
variable {H:Type} {enc:TypeId × Value→H} {P:Program} {W:World} {base:Nat} {held:Bool}
theorem rd_inner {α:Type} [Inhabited α] {g:α→List Value} {q:Nat} (hq:0<q) (hg:∀ a,(g a).length=q∧∀ c ∈ g a,scOK c=true) {t e:TypeId} {fuel:Nat} {v:Value} {x:DataW H × List MemPlace} (ht:P.underlying t=some (.slice e)) (hc:P.cellsOf e=q) (hby:0<P.bytesOf e)
  (h:DataW.trod enc P W base (fun _=>true) held fuel t [v]=some x) (hsz:∀ n ∈ x.1.weights P t,n≤reachBytes)
  (hdec:∀ (cs:List Value) (n:Nat) (y:DataW H × List MemPlace),cs.length=q→DataW.trod enc P W base (fun _=>true) held n e cs=some y→∃ a,cs=g a) {b o:Nat} (hcell:W.cell? ⟨b,o,none⟩=some v):
  ∃ (l:List α) (u:Value),oldOf W b o=some u∧DRep (wOld (oldOf W)) (.sl 1 l.length (l.flatMap fun a=>(g a).map D.sc)) u∧l.length*P.bytesOf e≤reachBytes:=by
 by_cases hspot:∀ a n c,v= .slice (some a) n c→a.spot=none
 ·obtain ⟨l,h1,h2,h3⟩:=rd_structs hq hg ht hc hby hspot h hsz hdec
  exact ⟨l,v,oldOf_some hcell h2,drep_one (by simpa only[VRep] using h1),h3⟩
 ·rcases DataW.trod_slice ht h with ⟨h1,_⟩|⟨a,len,cap,elems,rest,n,rfl,h1,rfl,hb,hl,hm,hlen,hel,hsp,_⟩
  ·simp only[List.cons.injEq,and_true] at h1
   subst h1
   exact absurd (fun a n c e=>by cases e) hspot
  ·simp only[List.cons.injEq,and_true] at h1
   subst h1
   obtain ⟨hr1,hr2⟩:=hsp rfl
   obtain ⟨b',o',sp⟩:=a
   cases sp with
   |none=>exact absurd (fun a n c e=>by cases e;rfl) hspot
   |some s=>
    by_cases hz:cap=0
    ·have hl0:len=0:=by omega
     subst hz hl0
     refine ⟨[],_,oldOf_odd hcell,?_,by simp⟩
     simp only[DRep]
     exact .inr ⟨by decide,by trivial,by trivial,.inr ⟨by trivial,_,_,_,rfl⟩⟩
    ·exfalso
     have hcell0:∃ c,W.cell? (⟨b',o',some s⟩:Addr)=some c:=by
      have go:∀ cs,W.cells? base ((⟨b',o',some s⟩:Addr).add (0*q)) q=some cs→∃ c,W.cell? (⟨b',o',some s⟩:Addr)=some c:=fun cs h6=>by
       obtain ⟨k1,k2⟩:=cells_at h6
       have:=k2 0 hq
       rw[List.getElem?_eq_getElem (by omega)] at this
       rw[Nat.zero_mul] at this
       exact ⟨_,this⟩
      by_cases h0:0<len
      ·have:=hel 0 h0
       rw[hc,List.getElem?_eq_getElem (by omega)] at this
       simp only[Option.bind_eq_some_iff] at this
       obtain ⟨cs,h6,_⟩:=this
       exact go cs h6
      ·have:=hr2 0 (by omega)
       rw[hc,List.getElem?_eq_getElem (by omega),show len+0=0 by omega] at this
       simp only[Option.bind_eq_some_iff] at this
       obtain ⟨cs,h6,_⟩:=this
       exact go cs h6
     obtain ⟨c,hcell0⟩:=hcell0
     simp only[World.cell?] at hcell0
     split at hcell0
     ·simp at hcell0
     ·cases hcell0
theorem rd_structsD {α:Type} [Inhabited α] {g:α→List D} {q:Nat} {Pr:α→Prop} (hq:0<q) (hg:∀ a,(g a).length=q) {t e:TypeId} {fuel:Nat} {v:Value} {x:DataW H × List MemPlace} (ht:P.underlying t=some (.slice e)) (hc:P.cellsOf e=q) (hby:0<P.bytesOf e)
  (hspot:∀ a n c,v= .slice (some a) n c→a.spot=none)
  (h:DataW.trod enc P W base (fun _=>true) held fuel t [v]=some x) (hsz:∀ n ∈ x.1.weights P t,n≤reachBytes)
  (hdec:∀ (cs:List Value) (n:Nat) (y:DataW H × List MemPlace),cs.length=q→DataW.trod enc P W base (fun _=>true) held n e cs=some y→(∀ m ∈ y.1.weights P e,m≤reachBytes)→∀ b o,(∀ j,j<q→W.cell? ⟨b,o+j,none⟩=cs[j]?)→
   ∃ a,Pr a∧∀ j,j<q→∃ d u,(g a)[j]? =some d∧oldOf W b (o+j)=some u∧DRep (wOld (oldOf W)) d u):
  ∃ l:List α,VRep (wOld (oldOf W)) (.sl 3 l.length (l.flatMap g)) v∧ids 0 v= []∧l.length*P.bytesOf e≤reachBytes∧∀ a ∈ l,Pr a:=by
 rcases DataW.trod_slice ht h with ⟨h1,_⟩|⟨a,len,cap,elems,rest,n,rfl,h1,rfl,hb,hl,hm,hlen,hel,hsp,_⟩
 ·simp only[List.cons.injEq,and_true] at h1
  subst h1
  refine ⟨[],?_,rfl,by simp,fun a ha=>by cases ha⟩
  simp only[VRep,DRep]
  exact .inr ⟨by omega,by trivial,by trivial,.inl (by trivial)⟩
 ·simp only[List.cons.injEq,and_true] at h1
  subst h1
  have hs:=hspot a len cap rfl
  obtain ⟨b,o,sp⟩:=a
  simp only at hs
  subst hs
  obtain ⟨hr1,hr2⟩:=hsp rfl
  have hmax:cap*P.bytesOf e≤reachBytes:=by
   have:=hsz ((elems.length+rest.length)*P.bytesOf e) (by simp[DataW.weights,ht])
   rwa [show elems.length+rest.length=cap by omega] at this
  have hcap:cap≤cap*P.bytesOf e:=Nat.le_mul_of_pos_right _ hby
  have hbig:reachBytes<big:=by decide
  have hwt:∀ y ∈ elems,∀ m ∈ y.1.weights P e,m≤reachBytes:=fun y hmem m hm'=>hsz m (by
   simp only[DataW.weights,ht,List.mem_cons,List.mem_append]
   right;left
   clear hsz
   have:∀ l:List (DataW H × List MemPlace),y ∈ l→m ∈ DataW.weightsAll P e (l.map (·.1)):=by
    intro l
    induction l with
    |nil=>intro h;cases h
    |cons z l ih=>
     intro hz'
     simp only[List.map_cons,DataW.weightsAll,List.mem_append]
     rcases List.mem_cons.1 hz' with rfl|hz'
     ·exact Or.inl hm'
     ·exact Or.inr (ih hz')
   exact this elems hmem)
  have hone:∀ i,∃ a:α,i<len→Pr a∧∀ j,j<q→∃ d u,(g a)[j]? =some d∧oldOf W b (o+(i*q+j))=some u∧DRep (wOld (oldOf W)) d u:=fun i=>by
   by_cases hi:i<len
   ·have:=hel i hi
    rw[hc,List.getElem?_eq_getElem (by omega)] at this
    simp only[Option.bind_eq_some_iff] at this
    obtain ⟨cs,h2,h3⟩:=this
    obtain ⟨k1,k2⟩:=cells_at h2
    obtain ⟨a,ha,hj⟩:=hdec cs n _ k1 h3 (hwt _ (List.getElem_mem _)) b (o+i*q) fun j hj=>by
     have:=k2 j hj
     rw[← this,add_plain,add_plain]
    refine ⟨a,fun _=>⟨ha,fun j hjq=>?_⟩⟩
    have:=hj j hjq
    rwa [Nat.add_assoc] at this
   ·exact ⟨default,fun h=>absurd h hi⟩
  let f:Nat→α:=fun i=>Classical.choose (hone i)
  have hf:∀ i,i<len→Pr (f i)∧∀ j,j<q→∃ d u,(g (f i))[j]? =some d∧oldOf W b (o+(i*q+j))=some u∧DRep (wOld (oldOf W)) d u:=fun i=>Classical.choose_spec (hone i)
  let l:List α:=(List.range len).map f
  have hll:l.length=len:=by simp[l]
  refine ⟨l,?_,rfl,by rw[hll];exact Nat.le_trans (Nat.mul_le_mul_right _ hl) hmax,fun a ha=>?_⟩
  ·rw[hll]
   simp only[VRep,DRep]
   refine .inl ⟨⟨b,o,none⟩,cap,rfl,trivial,?_,?_,by omega⟩
   ·unfold capOK knownCap
    rw[if_pos (by rw[Nat.blt_eq];omega)]
    exact hl
   ·refine drepA_of _ _ fun k d hk=>?_
    have hvl:(l.flatMap g).length=len*q:=by
     have:∀ l:List α,(l.flatMap g).length=l.length*q:=fun l=>by
      induction l with
      |nil=>simp
      |cons a l ih=>rw[List.flatMap_cons,List.length_append,ih,hg a,List.length_cons,Nat.succ_mul];omega
     rw[this l,hll]
    have hkl:k<len*q:=by
     rw[← hvl]
     exact (List.getElem?_eq_some_iff.1 hk).1
    have hi:k / q<len:=Nat.div_lt_of_lt_mul (by rw[Nat.mul_comm];exact hkl)
    have hj:k % q<q:=Nat.mod_lt _ hq
    have hkk:k / q*q+k % q=k:=by rw[Nat.mul_comm];exact Nat.div_add_mod k q
    obtain ⟨d',u,e1,e2,e3⟩:=(hf (k / q) hi).2 (k % q) hj
    have e4:=flat_at (g:=g) hq l (fun a _=>hg a) (k / q) (k % q) hj
    rw[hkk] at e2 e4
    have e5:l[k / q]? =some (f (k / q)):=by simp[l,hi]
    rw[e5,Option.bind_some,e1,hk] at e4
    cases e4
    exact ⟨u,e2,e3⟩
  ·simp only[l,List.mem_map,List.mem_range] at ha
   obtain ⟨i,hi,rfl⟩:=ha
   exact (hf i hi).1
end
end Go.Itp
