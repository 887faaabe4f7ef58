/- What is proved: the law WordsRows returns true for every input. Conditions: none beyond the card's own.
   Texts: Shell, Shell2, Shell3, V22, V23, V30, SP, V31, V24, V25, V26, VV, V52, V27, V28, V32, V33, V29, V40, V34, V35, V36, V41, V37, V38, V39, V42, V43, V44, V45, V46, V47, V51, V50, V53, V54.
-/
import Derived.Test.YtimmmnanllcfoaaDoorPart3
import Derived.ChangeSame
import Derived.ChangeReads
import Derived.ChangeSlices
import Derived.SliceStrings
import Derived.ChangeShapes
import Derived.WideShapes
import Derived.ProofKit
import Derived.OpenShut
import Derived.SizedLaws
import Derived.WalkSmall
import Derived.Lib.LaidTab
import Derived.Sort.Grow
import Derived.Shelf.Strconv.Itoa3
import Derived.Lib.AtoiAll
import Derived.Lib.AtoiErrMem
import Derived.Lib.Replace
import Derived.Lib.ItoaNum
import Derived.Lib.Atoi
import Derived.Lib.AtoiTie
import Derived.Lib.Join
import Derived.HandedShaped
import Derived.Shelf.Vars
namespace Go.Itp
open Go.RowKit (Below)
open Go.ChangeShapes Go.WideShapes
def qR (P:Program):Nat→TypeId→Bool
 |0,_=>false
 |k+1,t=>match P.underlying t with
  |some .bool=>true
  |some (.int _)=>true
  |some .string=>true
  |some (.slice e)=> !(P.cellsOf e==0) && qR P k e
  |some (.struct fs)=>fs.toList.all fun f=>qR P k f.type
  |some (.array _ e)=>qR P k e
  |_=>false
section
variable {H:Type} {enc:TypeId × Value→H} {P:Program} {w:World} {base:Nat} {held:Bool} {sp:Nat→Bool}
theorem VJ:∀ (k n:Nat) (t:TypeId) (cs:List Value) (x:DataW H × List MemPlace),qR P k t=true→DataW.trod enc P w base (fun _=>true) held n t cs=some x→(∀ p ∈ x.2,sp p.block=true)→
  DataW.trod enc P w base sp held n t cs=some x
 |0,_,_,_,_,h,_,_=>by simp[qR] at h
 |k+1,0,_,_,_,_,h,_=>by simp[DataW.trod] at h
 |k+1,n+1,t,cs,x,hf,h,hs=>by
  have ih:=fun t cs x=>VJ k n t cs x
  rw[DataW.trod_step] at h ⊢
  unfold DataW.trodStep at h ⊢
  unfold qR at hf
  split at h
  case h_8 e a len cap hu=>
   rw[hu] at hf
   simp only[Bool.and_eq_true,Bool.not_eq_true',beq_eq_false_iff_ne] at hf
   simp only at h ⊢
   split at h
   ·rename_i hc
    rw[if_pos hc]
    simp only[Option.map_eq_some_iff,Option.bind_eq_some_iff,if_true] at h ⊢
    obtain ⟨elems,he,rest,hrest,rfl⟩:=h
    have hl1:elems.length=len:=by simpa using mapM_some_length he
    have hl2:rest.length=cap - len:=by simpa using mapM_some_length hrest
    have one:∀ (a:Addr) (y:DataW H × List MemPlace),y ∈ elems++rest→(w.cells? base a (P.cellsOf e)).bind (DataW.trod enc P w base (fun _=>true) held n e)=some y→
      (w.cells? base a (P.cellsOf e)).bind (DataW.trod enc P w base sp held n e)=some y:=by
     intro a y hy hv
     simp only[Option.bind_eq_some_iff] at hv ⊢
     obtain ⟨c,hc1,hc2⟩:=hv
     exact ⟨c,hc1,ih _ _ _ hf.2 hc2 fun p hp=>hs p (by simp only[List.mem_append,List.mem_flatMap];exact Or.inr ⟨y,by simpa using hy,hp⟩)⟩
    refine ⟨elems,mapM_carry he fun i y _ hy hv=>one _ y (by simp[hy]) hv,rest,?_,rfl⟩
    by_cases hz:elems.length+rest.length=0
    ·have:rest= []:=List.length_eq_zero_iff.1 (by omega)
     subst this
     have:cap - len=0:=by simpa using hl2.symm
     rw[this]
     split<;>simp
    ·have hb:sp a.block=true:=by
      have:=hs (.cell a.block (a.off+0)) (by
       simp only[List.mem_append]
       left
       refine MemPlace.mem_row.2 ⟨0,?_,rfl⟩
       exact Nat.mul_pos (by omega) (Nat.pos_of_ne_zero hf.1))
      simpa [MemPlace.block] using this
     rw[if_pos hb]
     exact mapM_carry hrest fun j y _ hy hv=>one _ y (by simp[hy]) hv
   ·cases h
  case h_9 fs hu=>
   rw[hu] at hf
   simp only[List.all_eq_true] at hf
   split at h
   ·rename_i hc
    rw[if_pos hc]
    simp only[Option.map_eq_some_iff] at h ⊢
    obtain ⟨xs,hx,rfl⟩:=h
    exact ⟨xs,mapM_carry hx (fun f y hfm hy hv=>ih _ _ _ (hf f hfm) hv (fun p hp=>hs p (List.mem_flatMap.2 ⟨y,hy,hp⟩))),rfl⟩
   ·cases h
  case h_10 m e hu=>
   rw[hu] at hf
   split at h
   ·rename_i hc
    rw[if_pos hc]
    simp only[Option.map_eq_some_iff] at h ⊢
    obtain ⟨xs,hx,rfl⟩:=h
    exact ⟨xs,mapM_carry hx (fun f y _ hy hv=>ih _ _ _ hf hv (fun p hp=>hs p (List.mem_flatMap.2 ⟨y,hy,hp⟩))),rfl⟩
   ·cases h
  all_goals first|exact h|(exfalso;simp_all;done)|(simp_all;done)
theorem xQ (k:Nat) {W W':World} (hb:Below W.heap.size W W'):∀ (ts:List TypeId) (vs:List Value) (ds:List (DataW H)) (ps:List MemPlace),ts.all (qR P k)=true→
  DataW.TrodAll enc P W base (fun _=>true) held ts vs ds ps→(∀ p ∈ ps,p.block<W.heap.size)→(∀ p ∈ ps,sp p.block=true)→DataW.TrodAll enc P W' base sp held ts vs ds ps
 | [],[],[],_,_,h,_,_=>h
 |t::ts,v::vs,d::ds,ps,hf,⟨p,q,⟨n,h1⟩,h2,e⟩,hl,hs=>by
  subst e
  simp only[List.all_cons,Bool.and_eq_true] at hf
  refine ⟨p,q,⟨n,?_⟩,xQ k hb ts vs ds q hf.2 h2 (fun x hx=>hl x (by simp[hx])) (fun x hx=>hs x (by simp[hx])),rfl⟩
  refine VJ k n _ _ _ hf.1 (DataW.trod_carry n _ _ _ h1 fun x hx=>hb.same (hl x ?_)) fun x hx=>hs x ?_
  ·simp only at hx;simp[hx]
  ·simp only at hx;simp[hx]
 | [],_::_,_,_,_,h,_,_=>by simp[DataW.TrodAll] at h
 | [],[],_::_,_,_,h,_,_=>by simp[DataW.TrodAll] at h
 |_::_,[],_,_,_,h,_,_=>by simp[DataW.TrodAll] at h
 |_::_,_::_,[],_,_,h,_,_=>by simp[DataW.TrodAll] at h
theorem aG1 {f:Func} {s:ChangeSpec} {apart fresh handsOn again:Bool} {W W':World} {args:Array Value} {ds gs:List (DataW H)} {before:List MemPlace} {rt:TypeId}
  (hW:DataW.Whole enc P f.params.toList s.vars apart W args.toList ds gs before) (hv:s.vars= []) (hfn:s.fn H ds={results:= [.lit (.bool true)],args:=ds})
  (hf:f.params.toList.all (qR P 20)=true) (hr:f.resultTypes=#[rt]) (hrt:P.underlying rt=some .bool) (hb:Below W.heap.size W W'):
  s.post enc P f apart fresh handsOn again W args (.bool true) W':=by
 have hlt:∀ p ∈ before,p.block<W.heap.size:=fun p hp=>hW.lt p hp
 have hW':=hW
 obtain ⟨pa,pv,hA,hV,hps,hz,hn⟩:=hW
 rw[hv] at hV
 obtain ⟨rfl,rfl⟩:=trodVars_none hV
 rw[List.append_nil] at hps
 subst hps
 have hd:s.fn H (ds++ [])={results:= [.lit (.bool true)],args:=ds}:=by rw[List.append_nil];exact hfn
 have hres:∀ (b:Nat) (sp:Nat→Bool) (hd:Bool),DataW.TrodAll enc P W' b sp hd f.resultTypes.toList ((Value.bool true).resultList f.resultTypes.size) (s.fn H (ds++ [])).results []:=by
  intro b sp hd'
  rw[hr,hd]
  exact ⟨[],[],⟨1,by simp[DataW.trod,hrt,Value.cells]⟩,rfl,rfl⟩
 have hargs:∀ sp:Nat→Bool,(∀ p ∈ before,sp p.block=true)→DataW.TrodAll enc P W' 0 sp true f.params.toList args.toList (s.fn H (ds++ [])).args before:=fun sp hsp=>by rw[hd];exact xQ 20 hb _ _ _ _ hf hA hlt hsp
 have hold:∀ p ∈ before,(fun b=>decide (b<W.heap.size)) p.block=true:=fun p hp=>by simpa using hlt p hp
 have hvars:∀ sp,DataW.TrodVars enc P W' sp s.vars (s.fn H (ds++ [])).vars []:=fun sp=>by rw[hv,hd];rfl
 refine ⟨ds,[],before,[],before,[],hW',hres _ _ _,hargs _ hold,hvars _,World.keptBut_mono (fun p hp=>⟨hp,?_⟩) (hb.frame (· ∈ before)),fun _=>?_⟩
 ·exact Or.inr (Or.inl hp)
 ·refine ⟨?_,_,_,([]++before)++ [],⟨[]++before,[],trodAll_append (hargs _ (fun _ _=>rfl)) (hres _ _ _),hvars _,rfl,?_,?_⟩,?_⟩
  ·intro j t r h1 h2
   rw[hr] at h1 h2
   have hj:j=0:=by
    rcases Nat.lt_or_ge j 1 with h|h
    ·omega
    ·rw[Array.getElem?_eq_none (by simpa using h)] at h1;cases h1
   subst hj
   simp at h1 h2
   subst h1
   have h2':r= .bool true:=by
    have:(Value.bool true).resultList 1= [.bool true]:=rfl
    rw[this] at h2;simpa using h2.symm
   subst h2'
   exact Go.RowKit.okWide_bool_mk hrt true
  ·intro b off hp
   have hin:MemPlace.cell b off ∈ before:=by simpa using hp
   rw[hb.frozen (hlt _ hin)]
   exact hz b off hin
  ·intro ha;simpa using hn ha
  ·intro p hp _;simpa using hp
end
end Go.Itp
namespace Go.Itp
open Go.ChangeShapes Go.WideShapes
def DW:Value→Value
 | .slice (some ⟨b,o,some k⟩) 0 0=> .complex .f32 b (ES o k)
 |v=>v
section
variable {H:Type} {enc:TypeId × Value→H} {P:Program} {W:World} {base:Nat} {held:Bool}
theorem WM {b o:Nat} {c:Value} (h:W.cell? ⟨b,o,none⟩=some c) (hid:p8 0 c= []) (ha:DW c=c):aK W b o=some (DW c):=by
 rw[ha];exact QI h hid
end
section
variable {H:Type} {enc:TypeId × Value→H} {P:Program} {W:World} {base:Nat} {held:Bool}
theorem rG {r:Reach} {b:Nat} {u:TypeId} {a:Addr} {n c:Nat} (h:Cell.okWide P W r b u (.slice (some a) n c)):a.spot=none:=by
 unfold Cell.okWide at h
 split at h
 all_goals first|(rename_i heq;cases heq;done)|skip
 unfold Cell.ok at h
 split at h
 all_goals first|(rename_i heq;cases heq;done)|skip
 ·rename_i e a' len cap _ heq
  cases heq
  exact h.2.2.2.1
 ·exact h.elim
theorem bE8 {r:Reach} {b:Nat} {u:TypeId} {v:Value} (h:Cell.okWide P W r b u v):DW v=v:=by
 unfold DW
 split
 ·rename_i b' o k
  have:=rG h
  cases this
 ·rfl
end
section
variable {H:Type} {enc:TypeId × Value→H} {P:Program} {W:World} {base:Nat} {held:Bool}
theorem vU {t:TypeId} {b:Nat} {v:Value} (ht:∀ fs,P.underlying t ≠ some (.struct fs)) (ht':∀ n e,P.underlying t ≠ some (.array n e)) (hv:Value.okWide P W .any b t v):Cell.okWide P W .any b t v:=by
 unfold Value.okWide at hv
 split at hv
 ·rename_i fs h;exact (ht fs h).elim
 ·rename_i n e h;exact (ht' n e h).elim
 ·exact hv
theorem aH5 {t:TypeId} {b:Nat} {v:Value} {d:DataW H} {ps:List MemPlace} (ht:P.underlying t=some .string) (hv:Value.okWide P W .any b t v) (h:DataW.Trod enc P W base (fun _=>true) held t v d ps) (hsz:∀ n ∈ d.weights P t,n≤reachBytes):
  ∃ s:ByteArray,v= .string s∧s.size≤reachBytes:=by
 have hc:=vU (by simp[ht]) (by simp[ht]) hv
 obtain ⟨n,hn⟩:=h
 obtain ⟨s,h1,h2,_⟩:=DataW.trod_string ht hn
 have hv':v= .string s:=by
  unfold Cell.okWide at hc
  simp only[ht,Cell.ok] at hc
  cases v<;>first|(exfalso;simp at hc;done)|(simpa [Value.cells] using h1)
 simp only[Prod.mk.injEq] at h2
 exact ⟨s,hv',by have:=hsz s.data.toList.length (by rw[h2.1];simp[DataW.weights]);simpa using this⟩
theorem aH3 {t:TypeId} {k:IntKind} {b:Nat} {v:Value} {d:DataW H} {ps:List MemPlace} (ht:P.underlying t=some (.int k)) (hv:Value.okWide P W .any b t v) (h:DataW.Trod enc P W base (fun _=>true) held t v d ps):
  ∃ z:Int,v= .int k z∧(Lit.int k z).wf=true:=by
 have hc:=vU (by simp[ht]) (by simp[ht]) hv
 obtain ⟨n,hn⟩:=h
 obtain ⟨z,h1,_,h2⟩:=DataW.trod_int ht hn
 refine ⟨z,?_,h2⟩
 unfold Cell.okWide at hc
 simp only[ht,Cell.ok] at hc
 cases v<;>first|(exfalso;simp at hc;done)|(simpa [Value.cells] using h1)
theorem yE {ts:List TypeId} {ds:List (DataW H)} (h:(DataW.weightsEach P ts ds).all (· ≤reachBytes)=true) {j:Nat} {t:TypeId} {d:DataW H} (ht:ts[j]? =some t) (hd:ds[j]? =some d):∀ n ∈ d.weights P t,n≤reachBytes:=fun n hn=>by
 have:=List.all_eq_true.1 h n (DataW.weights_mem_each ht hd n hn)
 simpa using this
end
set_option linter.unusedVariables false
set_option linter.unusedSimpArgs false
section
variable {H:Type} {enc:TypeId × Value→H} {P:Program} {W:World} {base:Nat} {held:Bool}
theorem IT {e:TypeId} (he:P.underlying e=some .bool) (c:Value) (n:Nat) (y:DataW H × List MemPlace) (h:DataW.trod enc P W base (fun _=>true) held n e [c]=some y):∃ b:Bool,c= .bool b:=by
 obtain ⟨z,h1,_⟩:=DataW.trod_bool he h
 exact ⟨z,by simpa using h1⟩
theorem aH6 {t:TypeId} {f0 f1:Field} {b:Nat} {v:Value} {d:DataW H} {ps:List MemPlace} (ht:P.underlying t=some (.struct #[f0,f1])) (o0:f0.offset=0) (o1:f1.offset=1)
  (c0:P.cellsOf f0.type=1) (c1:P.cellsOf f1.type=1) (ct:P.cellsOf t=2) (hv:Value.okWide P W .any b t v) (h:DataW.Trod enc P W base (fun _=>true) held t v d ps) (hsz:∀ n ∈ d.weights P t,n≤reachBytes):
  ∃ (n:Nat) (a0 a1:Value) (y0 y1:DataW H × List MemPlace),v= .agg [a0,a1].toArray∧DW a0=a0∧DW a1=a1∧
   DataW.trod enc P W base (fun _=>true) held n f0.type [a0]=some y0∧DataW.trod enc P W base (fun _=>true) held n f1.type [a1]=some y1∧
   (∀ m ∈ y0.1.weights P f0.type,m≤reachBytes)∧(∀ m ∈ y1.1.weights P f1.type,m≤reachBytes):=by
 unfold Value.okWide at hv
 rw[ht] at hv
 obtain ⟨cs,rfl,hcs,ts,_,_,hrow⟩:=hv
 rw[ct] at hcs
 obtain ⟨l⟩:=cs
 simp only[List.size_toArray] at hcs
 obtain ⟨a0,a1,rfl⟩:∃ a0 a1,l= [a0,a1]:=by
  rcases l with _|⟨a0,_|⟨a1,_|⟨a2,l⟩⟩⟩<;>simp at hcs
  exact ⟨a0,a1,rfl⟩
 obtain ⟨n,hn⟩:=h
 cases n with
 |zero=>simp[DataW.trod] at hn
 |succ n=>
  have habs:∀ i c,([a0,a1]:List Value)[i]? =some c→DW c=c:=fun i c hc=>by
   obtain ⟨u,_,hu⟩:=hrow i c (by simpa using hc)
   exact bE8 hu
  unfold DataW.trod at hn
  simp only[ht,Value.cells] at hn
  rw[if_pos (by simp[ct])] at hn
  simp only[Option.map_eq_some_iff,List.mapM_cons,List.mapM_nil] at hn
  obtain ⟨xs,hx,hd⟩:=hn
  simp only[o0,o1,c0,c1,List.drop_zero,List.drop_succ_cons,List.take_succ_cons,List.take_zero] at hx
  cases h0:DataW.trod enc P W base (fun _=>true) held n f0.type [a0] with
  |none=>simp[h0] at hx
  |some y0=>
   cases h1:DataW.trod enc P W base (fun _=>true) held n f1.type [a1] with
   |none=>simp[h0,h1] at hx
   |some y1=>
    have hxs:xs= [y0,y1]:=by simpa [h0,h1] using hx.symm
    subst hxs
    simp only[Prod.mk.injEq] at hd
    obtain ⟨rfl,rfl⟩:=hd
    have hw:∀ m,(m ∈ y0.1.weights P f0.type∨m ∈ y1.1.weights P f1.type)→m≤reachBytes:=fun m hm=>hsz m (by
     simp only[DataW.weights,ht,List.map_cons,List.map_nil,DataW.weightsEach,List.mem_append]
     rcases hm with hm|hm
     ·exact Or.inl hm
     ·exact Or.inr (Or.inl hm))
    exact ⟨n,a0,a1,y0,y1,rfl,habs 0 _ rfl,habs 1 _ rfl,h0,h1,fun m hm=>hw m (Or.inl hm),fun m hm=>hw m (Or.inr hm)⟩
end
end Go.Itp
namespace Go.Itp
set_option linter.unusedVariables false
section
variable {old:Nat→Nat→Option Value} {rounds:Nat} {fns:FuncId→Option n9} {prims:FuncId→List Value→St→Option (Value × List r7)} {n:Nat} {xs:List V} {af:n9}
abbrev ZG (old:Nat→Nat→Option Value):VW:=⟨fun a=>match a.spot with|none=>old a.block a.off|some _=>none,fun _=>False,fun _=>none,0⟩
theorem HM (E:C7) (h:E.old=old):p5 E ([]:j5)=(ZG old).ld:=by
 funext a
 obtain ⟨b,o,sp⟩:=a
 subst h
 rcases sp with _|_|k<;>rfl
theorem bR4 {xsI:List Value} {x:Value} (hlen:xs.length≤af.n) (hx:d8 (ZG old) xs xsI)
  (h:∀ C:D7,C.E=D5 old rounds fns prims n→C.w0.nx=0→gC C af.code [] (aX 0 xs) ⟨[],0,0⟩ (DT C af.res (.sc x) ⟨[],0,0⟩)):∃ s',body (D5 old rounds fns prims n) af xsI St.empty=some (x,s'):=by
 let C:D7:=C1 (D5 old rounds fns prims n) St.empty (UE (D5 old rounds fns prims n) [] fun _=>False)
 have hs:SR C ⟨[],0,0⟩ ⟨St.empty.heap,St.empty.next,St.empty.next⟩ (fun _=>none) fun _=>False:=SR.start (fun b hb=>hb.elim) (fun b blk e=>by simp[St.empty,d6] at e)
 have hx':d8 (v6 C ⟨[],0,0⟩ ⟨St.empty.heap,St.empty.next,St.empty.next⟩ (fun _=>none) fun _=>False) xs xsI:=by
  show d8 ⟨p5 (D5 old rounds fns prims n) ([]:j5),fun _=>False,fun _=>none,0⟩ xs xsI
  rw[HM _ (dB n)];exact hx
 obtain ⟨vI,sf,hbody,μ,G,g1,g2,g3,g4,g5⟩:=ZV (C:=C) (s:=⟨St.empty.heap,St.empty.next,St.empty.next⟩) hlen (h C rfl rfl) ⟨_,_,hs,xT 0 hx',VW.le.refl _,rfl,fun b hb=> .inl hb⟩ hx.length
 simp only[b7] at g2
 rw[g2.1] at hbody
 exact ⟨sf,hbody⟩
theorem zV {α:Type} {W:VW} (g:α→D) (f:α→Value):∀ (l:List α) (a:Addr),(∀ k (hk:k<l.length),W.ld (x5 a k)=some (f l[k]))→(∀ x ∈ l,w9 W (g x) (f x))→v7 W (l.map g) a
 | [],a,_,_=>by simp only[List.map_nil,v7]
 |x::r,a,h,hg=>by
  simp only[List.map_cons,v7]
  refine ⟨⟨f x,?_,hg x (List.mem_cons_self ..)⟩,zV g f r _ (fun k hk=>?_) fun y hy=>hg y (List.mem_cons_of_mem _ hy)⟩
  ·have:=h 0 (by simp)
   simpa [x5] using this
  ·have:=h (k+1) (by simpa using hk)
   rw[show x5 (x5 a 1) k=x5 a (k+1) from by simp only[x5,Nat.add_assoc,Nat.add_comm 1 k]]
   simpa using this
end
set_option linter.constructorNameAsVariable false
section
variable {old:Nat→Nat→Option Value} {rounds:Nat} {fns:FuncId→Option n9} {prims:FuncId→List Value→St→Option (Value × List r7)} {n:Nat} {f:FuncId} {xs:List V} {v:V} {st st1:l6} {af:n9} {C:D7}
end
def aK5 (c:Nat):Obj:= .row c 0 true false []
section
variable {C:D7} {st:l6} {s:St} {μ:Nat→Option Nat} {F:Nat→Prop}
theorem kZ:∀ H:D2,A6 [] H=H
 | []=>rfl
 |(j,o)::r=>by rw[fO,kZ r];rfl
theorem SR.recd (h:SR C st s μ F) {o c:Nat} (ho:f6 st.own o=some (aK5 c)):∃ b blk,μ o=some b∧d6 s.heap b=some blk∧blk.esz=0∧blk.grow=true∧blk.ty=c:=by
 obtain ⟨b,blk,h1,h2,h3⟩:=h.obj o _ ho rfl
 exact ⟨b,blk,h1,h2,h3.1,h3.2.1,h3.2.2.1⟩
theorem SR.setRec (h:SR C st s μ F) {o b c:Nat} (ho:f6 st.own o=some (aK5 c)) (hro:st.ro≤o) (hμ:μ o=some b) (c':Nat):
  SR C ⟨D6 st.own o (aK5 c'),st.next,st.ro⟩ {s with heap:=J8 s.heap b (L1 c')} μ F∧VW.le (v6 C st s μ F) (v6 C ⟨D6 st.own o (aK5 c'),st.next,st.ro⟩ {s with heap:=J8 s.heap b (L1 c')} μ F)∧s.prot≤b:=by
 obtain ⟨b',blk,h1,h2,_⟩:=h.recd ho
 rw[hμ] at h1;cases h1
 have:=h.upd (fz:= []) ho rfl hro hμ h2 rfl (by simp) (ob':=aK5 c') (blk':=L1 c') rfl rfl rfl (fun w' _ _ _=>⟨rfl,rfl,rfl,by simp only[i7,L1]⟩)
 rw[kZ,R4] at this
 exact this
theorem OZ {E E':C7} (h:E'.old=E.old):p5 E'=p5 E:=by
 funext hp a
 rw[DZ,DZ,h]
end
section
variable {C:D7} {st:l6} {old:Nat→Nat→Option Value} {rounds:Nat} {fns:FuncId→Option n9} {prims:FuncId→List Value→St→Option (Value × List r7)} {n:Nat} {f:FuncId} {xs:List V} {af:n9} {fr:B8} {P:A2} {K:List KF}
end
end Go.Itp
namespace Go.Itp
open Go.RowKit (Below)
open Go.Sort (grow)
section
variable {P:Program} {G:s5} {μ:Mu} {s:St} {w:World}
def DR (P:Program) (f:FuncId):Prop:=∃ fn c,P.funcs[f]? =some fn∧fn.body=some c∧(fn.name== "runtime.NumGoroutine")=false
theorem bG {f:FuncId} {args:Array Value} {v c:Value} (hen:DR P f) (hr:B2 G μ s w) (hc:Calls P f args w fun e w'=>e= .returned c∧Below w.heap.size w w') (hv:tr μ v=some c):K3 P f args w (q9 G μ s w v []):=by
 obtain ⟨fn,cd,h1,h2,h3⟩:=hen
 exact N0 h1 h2 h3 (hc.mono fun e w' ⟨he,hb⟩=>⟨c,he,μ,S6.refl s μ,hv,by rw[wB];exact hr.below hb,hb⟩)
theorem PA (w:World) (k:Nat) (os:Array Go.Obj):Below w.heap.size w (grow (w.drewN k) os):=
 ⟨rfl,rfl,rfl,by simp[grow,World.drewN],fun i hi=>by simp only[grow,World.drewN];rw[Array.getElem?_append_left hi]⟩
theorem YV {name:String} {k:IntKind} {zs:List Int} {w0 w:World} (h:Lib.TabIs P w0 name k zs) (hb:Below w0.heap.size w0 w):Lib.TabIs P w name k zs:=by
 unfold Lib.TabIs World.var? at h ⊢
 cases hg:P.globalNamed name with
 |none=>rw[hg] at h;cases h
 |some g=>
  rw[hg] at h
  simp only[Option.bind_some] at h ⊢
  rcases Nat.lt_or_ge g w0.heap.size with h'|h'
  ·rw[hb.block g h'];exact h
  ·rw[Array.getElem?_eq_none h'] at h;cases h
end
def KM (f0:FuncId) (f:FuncId) (xs:List Value) (_:St):Option (Value × List r7):=
 if Nat.beq f f0 then (match xs with
  | [.int .i64 n]=>if -9223372036854775808≤n∧n≤9223372036854775807 then some (.string ⟨(Lib.itoa n).toArray⟩,[]) else none
  |_=>none) else none
theorem aF6 {P:Program} {f0:FuncId} {w0:World} (hen:DR P f0) (ht:Lib.TabIs P w0 "internal/strconv.uint64pow10" .u64 Lib.pow10Tab)
  (hc:∀ (n:Int) (_: -9223372036854775808≤n) (_:n≤9223372036854775807) (w:World) (_:Lib.TabIs P w "internal/strconv.uint64pow10" .u64 Lib.pow10Tab),
   Calls P f0 #[.int .i64 n] w fun e w'=>e= .returned (.string ⟨(Lib.itoa n).toArray⟩)∧∃ k os,w'=grow (w.drewN k) os):O6 P (KM f0) w0:=by
 intro f xs s v bs h G μ w cs hG hr hx
 unfold KM at h
 split at h
 case isFalse=>cases h
 rename_i hf
 have:=f5.1 hf
 subst this
 split at h
 case h_2=>cases h
 rename_i n
 split at h
 case isFalse=>cases h
 rename_i hn
 simp only[Option.some.injEq,Prod.mk.injEq] at h
 obtain ⟨rfl,rfl⟩:=h
 simp[B0,tr] at hx
 subst hx
 refine bG hen hr ((hc n hn.1 hn.2 w (YV ht (by rw[← hG];exact hr.b0))).mono fun e w' ⟨he,k,os,hw⟩=>⟨he,?_⟩) rfl
 rw[hw]
 exact PA w k os
end Go.Itp
namespace Go.Itp
open Go.RowKit (Below)
set_option linter.unusedVariables false
set_option linter.constructorNameAsVariable false
section
variable {C:D7} {st:l6} {fr:B8}
end
section
variable {P:Program} {G:s5} {μ:Mu} {s:St} {w:World}
end
section
variable {old:Nat→Nat→Option Value} {rounds:Nat} {fns:FuncId→Option n9} {prims:FuncId→List Value→St→Option (Value × List r7)} {n:Nat} {f:FuncId}
theorem OC {w:VW}:∀ {ys:List Value} {xsI:List Value},d8 w (ys.map V.sc) xsI→xsI=ys
 | [],xsI,h=>by simpa [d8] using h
 |y::r,xsI,h=>by
  simp only[List.map_cons,d8] at h
  obtain ⟨v,vs',rfl,h1,h2⟩:=h
  rw[h1.scv,OC h2]
theorem aI7 {st:l6} {ys:List Value} {v:Value} (h:∀ s,prims f ys s=some (v,[])) (hv:A9 v=true):H9 (D5 old rounds fns prims (n+1)) f st (ys.map V.sc) (.sc v):=by
 intro s μ F xsI w0 hsr hx
 rw[OC hx]
 refine ⟨v,?_,fun w=> .mksc hv⟩
 simp only[fB,h]
theorem bH1 {f0:FuncId} {st:l6} {k:Int} (h0: -9223372036854775808≤k) (h1:k≤9223372036854775807) (hp:∀ xs s r,KM f0 f0 xs s=some r→prims f0 xs s=some r):
  H9 (D5 old rounds fns prims (n+1)) f0 st [.sc (.int .i64 k)] (.sc (.string ⟨(Lib.itoa k).toArray⟩)):=by
 refine aI7 (ys:= [.int .i64 k]) (fun s=>hp _ _ _ ?_) rfl
 unfold KM
 rw[if_pos (f5.2 rfl)]
 simp only
 rw[if_pos ⟨h0,h1⟩]
theorem P8 {a b:FuncId→List Value→St→Option (Value × List r7)} {xs:List Value} {s:St} {r:Value × List r7} (h:a f xs s=some r):R7 a b f xs s=some r:=by
 unfold R7
 rw[h]
theorem B4 {a b:FuncId→List Value→St→Option (Value × List r7)} {xs:List Value} {s:St} {r:Value × List r7} (h0:a f xs s=none) (h:b f xs s=some r):R7 a b f xs s=some r:=by
 unfold R7
 rw[h0]
 exact h
section
open Go.RowKit
theorem aG0 {P:Program} {w:World} {l:List (String × DataW Unit)} (h:laidMet P l w) {n:String} {d:DataW Unit} (i:Nat) (hi:l[i]? =some (n,d)) {g:Nat} {t e:TypeId} {k:IntKind} {m:Nat} {zs:List Int} (hg:P.globalNamed n=some g) (ht:(P.globals[g]?).map (·.type)=some t)
  (hta:P.underlying t=some (.array m e)) (he:P.underlying e=some (.int k)) (hc:P.cellsOf e=1) (hc2:P.cellsOf t=m) (hz:aB6 d=zs.map (Value.int k)):Lib.TabIs P w n k zs:=by
 obtain ⟨ps,h1,_,_⟩:=h
 obtain ⟨g',t',cs,fuel,p,k1,k2,k3,k4,_⟩:=KP l ps h1 i hi
 rw[hg] at k1;cases k1
 rw[ht] at k2;cases k2
 have hcs:=XR hta he hc hc2 k4
 unfold Lib.TabIs
 rw[k3,← hz,← hcs]
end
end
end Go.Itp
namespace Go.Itp
set_option linter.unusedVariables false
set_option linter.constructorNameAsVariable false
section
variable {C:D7} {st:l6} {fr:B8}
end
theorem oG {α:Type}:∀ (r:List (Nat × α)) (i:Nat) (u v:α),D6 (D6 r i u) i v=D6 r i v
 | [],i,u,v=>rfl
 |(k,x)::r,i,u,v=>by
  rw[T3,T3]
  split
  ·rename_i h;subst h;rw[T3,if_pos rfl]
  ·rename_i h;rw[T3,if_neg h,oG r i u v]
theorem DX {α:Type} {r:List (Nat × α)} {i:Nat} {u v:α} (h:f6 r i=some u):f6 (D6 r i v) i=some v:=by rw[bZ _ _ _ _ _ h,if_pos rfl]
theorem qY (u t:TypeId) (f:FuncId) (r:List (TypeId × FuncId)):N2 ((u,f)::r) t=if t=u then some f else N2 r t:=by
 simp only[N2]
 by_cases h:t=u
 ·rw[if_pos (f5.2 h),if_pos h]
 ·rw[if_neg (by rw[f5];exact h),if_neg h]
section
variable {old:Nat→Nat→Option Value} {fr:B8} {H:D2} {nx:Nat}
def aT0:V→Option V
 | .ref _ _ _ c=>if Nat.blt c s6 then some (.sc (.int .i64 c)) else none
 | .slk _ _ c _=>some (.sc (.int .i64 c))
 | .sc (.slice none _ _)=>some (.sc (.int .i64 0))
 |_=>none
theorem aJ4 (x:Operand):d7 old fr H nx (.cap x)=vp (iZ aT0 (m8 fr x)):=by
 simp only[d7,iZ]
 cases m8 fr x with
 |none=>rfl
 |some v=>
  simp only[Option.bind_some]
  cases v with
  |sc x=>cases x with
   |slice a b c=>cases a<;>rfl
   |_=>rfl
  |ref o k n c=>simp only[aT0];split<;>rfl
  |_=>rfl
theorem IH (n c:Nat):aT0 (.sc (.slice none n c))=some (.sc (.int .i64 0)):=(rfl)
theorem II (s n c:Nat) (l:List D):aT0 (.slk s n c l)=some (.sc (.int .i64 c)):=(rfl)
theorem DM (e n c:Nat) (j:IntKind):X0 e none (some (.int j 0)) none (.sc (.slice none n c))=some (.sc (.slice none 0 0)):=by
 simp only[X0]
 rfl
theorem OD (e s o n:Nat) (j:IntKind) (hn:n ≠ 0):X0 e none (some (.int j 0)) none (.gr s o n)=some (.ref o 0 0 (s6+n)):=by
 simp only[X0]
 rw[if_neg (by rw[f5];exact hn)]
 have h1:Nat.blt (s6+n) s6=false:=by rw[← Bool.not_eq_true,Nat.blt_eq];omega
 have h2:Nat.blt 0 (s6+n - s6)=true:=by rw[Nat.blt_eq];omega
 have h0:0<n:=by omega
 simp only[lO,p6,Option.bind_some]
 simp[h1,h0]
theorem LQ (t:TypeId) (e b:Nat) (z:List Value) (x y:Operand):d7 old fr H nx (.appMk t e b z x y)=jA (xS nx t e b z) (m8 fr x) (m8 fr y):=(rfl)
theorem zC (t e b:Nat) (z:Value) (n:Nat) (hn:0<n) (h1:n≤1099511627776) (hz:A9 z=true) (h2:n*b≤1099511627776):xS nx t e b [z] (.sc (.slice none 0 0)) (.sc (.int .i64 n))=some (.gr 2 nx n,some (.gro t e false (List.replicate n (.sc z))),[]):=by
 have hr:rep [z] n=List.replicate n z:=by
  induction n with
  |zero=>rfl
  |succ n ih=>
   rcases Nat.eq_zero_or_pos n with h0|h0
   ·subst h0;rfl
   ·simp only[rep,List.replicate_succ]
    rw[ih h0 (by omega) (Nat.le_trans (Nat.mul_le_mul_right _ (Nat.le_succ n)) h2)]
    rfl
 simp only[xS]
 rw[if_neg (by omega),if_pos ⟨by omega,by unfold o9;omega,by simp[hz],by simp⟩]
 simp only[Int.toNat_natCast]
 rw[if_pos (by rw[Nat.ble_eq];exact h2),hr]
 simp[yH]
def cY (st:l6) (t e b o k n c:Nat) (ob:Option Obj) (src:Src):Option (V × l6):=
 match ob,src with
 |some (.row t' e' g z l),some (m,new,fz)=>
  if V4 new && !Nat.beq e 0 && C8 st.ro st.own fz then (if !Nat.ble st.ro o||z||Nat.beq m 0|| !Nat.ble (n+m) o9|| !Nat.ble ((n+m)*b) o9 then none
      else if Nat.blt c s6 then (if Nat.ble (n+m) c && !j9 o fz then (B9 l (k+n*e) new).map fun l=>(.ref o k (n+m) c,⟨D6 (A6 fz st.own) o (.row t' e' g false l),st.next,st.ro⟩) else none)
      else if g && Nat.beq t' t && Nat.beq e' e && Nat.beq (k+n*e) l.length && Nat.beq c (s6+n) && !j9 o fz then
       some (.gr 2 st.next (n+m),⟨(st.next,.gro t e false (l.drop k++new))::A6 fz (I9 o st.own),st.next+1,st.ro⟩)
      else if Nat.ble (n+m) (c - s6) && !j9 o fz && !(g && Nat.beq t' t && Nat.beq e' e && Nat.beq (k+n*e) l.length && Nat.beq c (s6+n)) then (B9 l (k+n*e) new).map fun l=>(.ref o k (n+m) c,⟨D6 (A6 fz st.own) o (.row t' e' g false l),st.next,st.ro⟩)
      else none) else none
 |_,_=>none
theorem CW (st:l6) (t e b o k n c:Nat) (y:V):rQ st t e b (.ref o k n c) y=cY st t e b o k n c (f6 st.own o) (Q4 st.own e y):=by
 simp only[rQ,Q4]
 cases N9 y with
 |none=>simp only[Option.bind_none,cY];cases f6 st.own o with|none=>rfl|some ob=>cases ob<;>rfl
 |some m=>
  simp only[Option.bind_some]
  cases H5 st.own e m y with
  |none=>simp only[Option.bind_none,Option.map_none,cY];cases f6 st.own o with|none=>rfl|some ob=>cases ob<;>rfl
  |some r=>
   simp only[Option.bind_some,Option.map_some]
   cases f6 st.own o with
   |none=>simp only[cY];split<;>rfl
   |some ob=>cases ob<;>simp only[cY]<;>split<;>rfl
theorem wC {α:Type}:∀ (l:List α) (k:Nat) (m:List α),k+m.length≤l.length→B9 l k m=some (l.take k++m++l.drop (k+m.length))
 |l,k,[],h=>by simp[B9]
 | [],k,x::m,h=>by simp at h
 |a::l,0,x::m,h=>by
  simp only[List.length_cons] at h
  simp only[B9]
  rw[wC l 0 m (by omega)]
  simp
 |a::l,k+1,x::m,h=>by
  simp only[List.length_cons] at h
  simp only[B9]
  rw[wC l k (x::m) (by simp only[List.length_cons];omega)]
  simp only[Option.map_some,List.take_succ_cons,List.cons_append,List.length_cons]
  rw[show k+1+(m.length+1)=k+(m.length+1)+1 by omega,List.drop_succ_cons]
theorem sT (H:D2) (nx ro t e b o k n N t' e' m:Nat) (g:Bool) (l new:List D) (hro:ro≤o) (he:e ≠ 0) (hm:m ≠ 0) (hok:V4 new=true) (hle:n+m≤N) (h1:n+m≤1099511627776) (h2:(n+m)*b≤1099511627776) (hl:k+n*e+new.length≤l.length) (hn:n ≠ N):
  cY ⟨H,nx,ro⟩ t e b o k n (s6+N) (some (.row t' e' g false l)) (some (m,new,[]))=some (.ref o k (n+m) (s6+N),⟨D6 H o (.row t' e' g false (l.take (k+n*e)++new++l.drop (k+n*e+new.length))),nx,ro⟩):=by
 simp only[cY,hok]
 have hb:Nat.ble ro o=true:=by rw[Nat.ble_eq];exact hro
 have h3:Nat.ble (n+m) o9=true:=by rw[Nat.ble_eq];exact h1
 have h4:Nat.ble ((n+m)*b) o9=true:=by rw[Nat.ble_eq];exact h2
 have h5:Nat.beq (s6+N) (s6+n)=false:=OU.2 (by omega)
 have h6:Nat.ble (n+m) (s6+N - s6)=true:=by rw[Nat.ble_eq];omega
 rw[if_pos (by simp[OU.2 he,C8]),if_neg (by simp[hb,h3,h4,OU.2 hm]),if_neg (by rw[Nat.blt_eq];omega),if_neg (by simp[h5]),if_pos (by rw[h6,h5];simp[j9])]
 rw[wC _ _ _ hl,x4]
 rfl
end
structure M4 where
 v:List Nat
 w:List Nat
 n:List Nat
  /-- it sees all but v -/
 a:Bool
  /-- its new objects are a stretch's -/
 r:Bool
def M4.out (l:List Nat) (q:M4):Bool:=if q.a then GO l q.v else IW l q.v
def M4.ok (p q:M4):Bool:=q.out p.w && p.out q.w && q.out p.n
def gJ (rs:List M4) (q:M4):List Nat→Bool
 | []=>true
 |k::r=>(match A0 rs k with|some p=>p.ok q|none=>false) && gJ rs q r
def QE:I8→Bool
 | .mov _=>true
 | .pick _ _ _=>true
 | .alloc _ _=>true
 | .box _ _=>true
 | .build _ _=>true
 | .mkRow _ _ _ _ _=>true
 | .nilChk _=>true
 | .bin _ _ _=>true
 | .eqB _ _ _=>true
 | .eqNil _ _ _ _=>true
 | .un _ _=>true
 | .convI _ _=>true
 | .convS _=>true
 | .mkSlice _ _ _ _ _ _=>true
 | .slcS _ _ _=>true
 | .slc _ _ _ _ _=>true
 | .slcA _ _ _ _ _=>true
 | .fldA _ _=>true
 | .fldV _ _ _=>true
 | .idxS _ _ _=>true
 | .idxA _ _ _ _=>true
 | .idxStr _ _=>true
 | .idxV _ _ _ _ _=>true
 | .ext _ _=>true
 | .mkFn _ _ _=>true
 | .mkIf _ _=>true
 | .len _ _=>true
 | .mm _ _ _=>true
 | .eqIf _ _ _ _ _=>true
 | .eqAgg _ _ _ _=>true
 |_=>false
def bU1:V→List Nat
 | .ptr o _=> [o]
 |_=> []
def zM (old:Nat→Nat→Option Value) (st:l6) (k:Option Nat) (u:Option V):Option (V × l6 × M4):=u.bind fun u=>(aY old st.own k u).map fun v=>(v,st,⟨bU1 u,[],[],false,false⟩)
def mK (st:l6) (o k:Nat) (y:Value):Option Obj→Option (V × l6 × M4)
 |some (.row t e g false l)=>if Nat.ble st.ro o && Nat.blt k l.length then some (.tup [],⟨D6 st.own o (.row t e g false (l.set k (.sc y))),st.next,st.ro⟩,⟨[o],[o],[],false,false⟩) else none
 |some (.box t e l)=>if Nat.ble st.ro o && Nat.blt k l.length then some (.tup [],⟨D6 st.own o (.box t e (l.set k (.sc y))),st.next,st.ro⟩,⟨[o],[o],[],false,false⟩) else none
 |some (.gro t e false l)=>if Nat.ble st.ro o && Nat.blt k l.length then some (.tup [],⟨D6 st.own o (.gro t e false (l.set k (.sc y))),st.next,st.ro⟩,⟨[o],[o],[],false,false⟩) else none
 |_=>none
def EO (st:l6):Option V→Option V→Option (V × l6 × M4)
 |some (.ptr o k),some (.sc y)=>mK st o k y (f6 st.own o)
 |_,_=>none
def aX5:List V→Bool
 | []=>true
 | .sc _::r=>aX5 r
 | .sl _ _ _::r=>aX5 r
 |_::_=>false
def dE (st:l6) (n:Nat):Option V→Option V→Option (V × l6 × M4)
 |some (.ptr o k),some (.agg ys)=>match f6 st.own o with
  |some (.box t e l)=>if Nat.ble st.ro o && Nat.beq ys.length n && aX5 ys then (B9 l k ys).map fun l=>(.tup [],⟨D6 st.own o (.box t e l),st.next,st.ro⟩,⟨[o],[o],[],false,false⟩) else none
  |_=>none
 |_,_=>none
def aB5 (st:l6) (e:Nat):Option V→Option V→Option (V × l6 × M4)
 |some (.ref o k n c),some (.ref o2 k2 m c2)=>match f6 st.own o with
   |some (.row t e' g false l)=>(H5 st.own e (Nat.min m n) (.ref o2 k2 m c2)).bind fun cs=>
     if Nat.ble st.ro o && V4 cs.1 && cs.2.isEmpty && (f6 st.own o2).any (fun ob=> !ob.fz) then (B9 l k cs.1).map fun l=>(.sc (.int .i64 (Nat.min m n)),⟨D6 st.own o (.row t e' g false l),st.next,st.ro⟩,⟨[o,o2],[o,o2],[],false,true⟩) else none
   |_=>none
 |_,_=>none
def IP (st:l6):VO→Option (V × l6 × M4)
 |some (v,none,[])=>some (v,st,⟨[],[],[],false,false⟩)
 |some (v,some ob,[])=>some (v,⟨(st.next,ob)::st.own,st.next+1,st.ro⟩,⟨[],[],[st.next],false,false⟩)
 |_=>none
def RJ (old:Nat→Nat→Option Value) (f:B8) (st:l6) (o:I8) (hint:Option (List Nat)):Option (V × l6 × M4):=
 match o with
 | .load k a=>zM old st k (m8 f a)
 | .store n a x=>if Nat.beq n 1 then EO st (m8 f a) (m8 f x) else dE st n (m8 f a) (m8 f x)
 | .copy e d x=>aB5 st e (m8 f d) (m8 f x)
 |o=>if hint.isNone && QE o then IP st (d7 old f st.own st.next o) else none
def bF8 (st:l6) (t e b:Nat):Option V→Option V→Option (V × l6 × M4)
 |some (.gr s o n),some (.ref o2 k2 m c2)=>match f6 st.own o,f6 st.own o2 with
   |some (.gro t' e' false l),some (.row t2 e2 g2 false l2)=>
     if Nat.ble st.ro o && !Nat.beq n 0 && !Nat.beq m 0 && !Nat.beq e 0 && Nat.beq t' t && Nat.beq e' e && Nat.beq l.length (n*e) && Nat.ble (n+m) o9 && Nat.ble ((n+m)*b) o9 && Nat.ble (k2+m*e) l2.length && V4 ((l2.drop k2).take (m*e)) then
      some (.gr 2 st.next (n+m),⟨(st.next,.gro t e false (l++(l2.drop k2).take (m*e)))::I9 o st.own,st.next+1,st.ro⟩,⟨[o,o2],[o,o2],[st.next],false,true⟩) else none
   |_,_=>none
 |_,_=>none
def SI (st:l6) (t e b:Nat):Option V→Option (V × l6 × M4)
 |some (.ref o2 k2 m c2)=>match f6 st.own o2 with
   |some (.row t2 e2 g2 false l2)=>
     if !Nat.beq m 0 && !Nat.beq e 0 && Nat.ble m o9 && Nat.ble (m*b) o9 && Nat.ble (k2+m*e) l2.length && V4 ((l2.drop k2).take (m*e)) then
      some (.gr 2 st.next m,⟨(st.next,.gro t e false ((l2.drop k2).take (m*e)))::st.own,st.next+1,st.ro⟩,⟨[o2],[],[st.next],false,false⟩) else none
   |_=>none
 |_=>none
def aB3 (st:l6) (t e b:Nat):Option V→Option V→Option (V × l6 × M4)
 |some (.sc (.slice none 0 0)),y=>SI st t e b y
 |some (.gr 2 _ 0),y=>SI st t e b y
 |x,y=>bF8 st t e b x y
def O9 (old:Nat→Nat→Option Value) (f:B8) (st:l6) (o:I8) (hint:Option (List Nat)):Option (V × l6 × M4):=
 match o with
 | .app t e b x y=>aB3 st t e b (m8 f x) (m8 f y)
 |o=>RJ old f st o hint
def FA (rs:List M4):List Nat→Bool
 | []=>true
 |k::r=>(match A0 rs k with|some p=>p.n.isEmpty && !p.r|none=>false) && FA rs r
def wpS (C:D7) (o:I8) (hint:Option (List Nat)) (conc:List Nat) (rs:List M4) (f:B8) (st:l6) (Q:V→l6→M4→Prop):Prop:=
 match o with
 | .callF g xs=>hint=some []∧FA rs conc=true∧∃ args v,S8 f xs=some args∧H9 C.E g st args v∧Q v st ⟨[],[],[],true,false⟩
 |o=>match O9 C.E.old f st o hint with|some (v,st',r)=>Q v st' r|none=>False
def wpD (C:D7):List qA→List M4→B8→l6→(B8→l6→Prop)→Prop
 | [],_,fr,st,Q=>Q fr st
 |x::l,rs,fr,st,Q=>match x.o.guard with
   |none=>wpS C x.o.op x.hint x.conc rs (B3 (n8 x.o) fr) st fun v st' r=>gJ rs r x.conc=true∧wpD C l (rs++ [r]) (r8 fr x.o.dst v) st' Q
   |some (t,want)=>match f6 fr t with
     |some (.sc (.bool b))=>if b==want then (wpS C x.o.op x.hint x.conc rs (B3 (n8 x.o) fr) st fun v st' r=>gJ rs r x.conc=true∧wpD C l (rs++ [r]) (r8 fr x.o.dst v) st' Q) else wpD C l (rs++ [⟨[],[],[],false,false⟩]) (r8 fr x.o.dst (.tup [])) st Q
     |some (.tup _)=>wpD C l (rs++ [⟨[],[],[],false,false⟩]) (r8 fr x.o.dst (.tup [])) st Q
     |_=>False
theorem XU {E:C7} {f:Fr} {h:j5} {n p:Nat} {o:I8} (ho:QE o=true):a8 E f ⟨[],n,n⟩ o=a8 E f ⟨h,n,p⟩ o:=by
 cases o<;>first|rfl|cases ho
def bX7 (μ:Nat→Option Nat) (F:Nat→Prop) (w:NW) (l:List Nat) (r:Bool):Prop:=
 (r=false∧∃ ln,w= .fix ln∧∀ b ∈ ln,¬ F b∧∃ o ∈ l,μ o=some b)∨(r=true∧((∃ m,w= .rng m m)∨∃ m,w= .rng m (m+1)∧¬ F m∧∃ o ∈ l,μ o=some m))
def bE6 (μ:Nat→Option Nat) (F:Nat→Prop) (v:VS) (q:M4):Prop:=
 (q.a=false∧∃ lv,v= .only lv∧∀ b ∈ lv,F b∨∃ o ∈ q.v,μ o=some b)∨(q.a=true∧∃ lv,v= .but lv∧∀ o ∈ q.v,∃ b ∈ lv,μ o=some b)
def eO (μ:Nat→Option Nat) (F:Nat→Prop) (r:F1) (q:M4):Prop:=
 ∃ vv lw nw,r=⟨vv,.only lw,nw⟩∧bE6 μ F vv q∧(∀ b ∈ lw,¬ F b∧∃ o ∈ q.w,μ o=some b)∧bX7 μ F nw q.n q.r
theorem LJ (m:Nat):∀ l:List Nat,vW m m l=true
 | []=>rfl
 |x::r=>by
  simp only[vW,LJ m r,Bool.and_true,Bool.or_eq_true,Nat.blt_eq,Nat.ble_eq]
  omega
theorem LI (m:Nat):∀ l:List Nat,vW m (m+1) l=true↔m ∉ l
 | []=>by simp[vW]
 |x::r=>by
  simp only[vW,Bool.and_eq_true,LI m r,Bool.or_eq_true,Nat.blt_eq,Nat.ble_eq,List.mem_cons,not_or]
  constructor
  ·rintro ⟨h1,h2⟩;exact ⟨by omega,h2⟩
  ·rintro ⟨h1,h2⟩;exact ⟨by omega,h2⟩
theorem bE6.out {μ:Nat→Option Nat} {F:Nat→Prop} (hinj:∀ o o' b,μ o=some b→μ o'=some b→o=o') {v:VS} {q:M4} (h:bE6 μ F v q) {l w:List Nat} (hl:∀ b ∈ l,¬ F b∧∃ o ∈ w,μ o=some b) (k:q.out w=true):(VS.only l).dis v=true:=by
 rcases h with ⟨ha,lv,rfl,hv⟩|⟨ha,lv,rfl,hv⟩
 ·simp only[M4.out,ha,Bool.false_eq_true,if_false,W0] at k
  rw[aB8,W0]
  intro x hx hx'
  obtain ⟨n1,o,ho,e⟩:=hl x hx
  rcases hv x hx' with hF|⟨o',ho',e'⟩
  ·exact n1 hF
  ·have:=hinj o o' x e e'
   subst this
   exact k o ho ho'
 ·simp only[M4.out,ha,if_true,aT] at k
  show GO l lv=true
  rw[aT]
  intro x hx
  obtain ⟨n1,o,ho,e⟩:=hl x hx
  obtain ⟨b,hb,e'⟩:=hv o (k o ho)
  rw[e] at e'
  cases e'
  exact hb
theorem eO.ok {μ:Nat→Option Nat} {F:Nat→Prop} (hinj:∀ o o' b,μ o=some b→μ o'=some b→o=o') {r r':F1} {q q':M4} (h:eO μ F r q) (h':eO μ F r' q') (k:q.ok q'=true):r.ok r'=true:=by
 obtain ⟨lv,lw,ln,rfl,a1,a2,a3⟩:=h
 obtain ⟨lv',lw',ln',rfl,b1,b2,b3⟩:=h'
 simp only[M4.ok,Bool.and_eq_true] at k
 obtain ⟨⟨k1,k2⟩,k3⟩:=k
 rw[bS0]
 simp only[Bool.and_eq_true]
 refine ⟨⟨b1.out hinj a2 k1,a1.out hinj b2 k2⟩,?_⟩
 rcases a3 with ⟨_,l,rfl,a3⟩|⟨_,⟨m,rfl⟩|⟨m,rfl,a3,a4⟩⟩
 ·have:=b1.out hinj a3 k3
  rcases b1 with ⟨_,lv,rfl,_⟩|⟨_,lv,rfl,_⟩<;>exact this
 ·rcases b1 with ⟨_,lv,rfl,_⟩|⟨_,lv,rfl,_⟩
  ·rw[aH7];exact LJ m _
  ·show (Nat.beq m m||_)=true
   rw[f5.2 rfl];rfl
 ·have:=b1.out hinj (l:= [m]) (w:=q.n) (by intro b hb;simp only[List.mem_singleton] at hb;subst hb;exact ⟨a3,a4⟩) k3
  rcases b1 with ⟨_,lv,rfl,_⟩|⟨_,lv,rfl,_⟩
  ·rw[aH7,LI]
   rw[aB8,W0] at this
   exact this m (by simp)
  ·show (Nat.beq (m+1) m||(Nat.beq (m+1) (m+1) && j9 m lv))=true
   have h2:j9 m lv=true:=by
    have:=(aT [m] lv).1 this m (by simp)
    exact (i6 _ _).2 this
   rw[h2,f5.2 rfl];simp
theorem eO.mk3 {μ:Nat→Option Nat} {F:Nat→Prop} {lv lw ln v w n:List Nat} (h1:∀ b ∈ lv,F b∨∃ o ∈ v,μ o=some b) (h2:∀ b ∈ lw,¬ F b∧∃ o ∈ w,μ o=some b) (h3:∀ b ∈ ln,¬ F b∧∃ o ∈ n,μ o=some b):
  eO μ F ⟨.only lv,.only lw,.fix ln⟩ ⟨v,w,n,false,false⟩:=⟨_,_,_,rfl,.inl ⟨rfl,_,rfl,h1⟩,h2,.inl ⟨rfl,_,rfl,h3⟩⟩
theorem eO.mkr {μ:Nat→Option Nat} {F:Nat→Prop} {lv lw v w n:List Nat} {m:Nat} (h1:∀ b ∈ lv,F b∨∃ o ∈ v,μ o=some b) (h2:∀ b ∈ lw,¬ F b∧∃ o ∈ w,μ o=some b):
  eO μ F ⟨.only lv,.only lw,.rng m m⟩ ⟨v,w,n,false,true⟩:=⟨_,_,_,rfl,.inl ⟨rfl,_,rfl,h1⟩,h2,.inr ⟨rfl,.inl ⟨_,rfl⟩⟩⟩
theorem eO.mono {μ μ':Nat→Option Nat} {F:Nat→Prop} (h:∀ o b,μ o=some b→μ' o=some b) {r:F1} {q:M4}:eO μ F r q→eO μ' F r q:=by
 rintro ⟨lv,lw,ln,e,a1,a2,a3⟩
 refine ⟨lv,lw,ln,e,?_,fun b hb=>⟨(a2 b hb).1,let ⟨o,x,y⟩:=(a2 b hb).2;⟨o,x,h _ _ y⟩⟩,?_⟩
 ·rcases a1 with ⟨ha,l,e1,e2⟩|⟨ha,l,e1,e2⟩
  ·exact .inl ⟨ha,l,e1,fun b hb=>(e2 b hb).imp id fun ⟨o,x,y⟩=>⟨o,x,h _ _ y⟩⟩
  ·exact .inr ⟨ha,l,e1,fun o ho=>let ⟨b,x,y⟩:=e2 o ho;⟨b,x,h _ _ y⟩⟩
 ·rcases a3 with ⟨hr,l,e1,e2⟩|⟨hr,⟨m,e1⟩|⟨m,e1,e2,o,e3,e4⟩⟩
  ·exact .inl ⟨hr,l,e1,fun b hb=>⟨(e2 b hb).1,let ⟨o,x,y⟩:=(e2 b hb).2;⟨o,x,h _ _ y⟩⟩⟩
  ·exact .inr ⟨hr,.inl ⟨m,e1⟩⟩
  ·exact .inr ⟨hr,.inr ⟨m,e1,e2,o,e3,h _ _ e4⟩⟩
inductive K0 (μ:Nat→Option Nat) (F:Nat→Prop):List F1→List M4→Prop
 |nil:K0 μ F [] []
 |cons {r q rs qs}:eO μ F r q→K0 μ F rs qs→K0 μ F (r::rs) (q::qs)
theorem K0.snoc {μ:Nat→Option Nat} {F:Nat→Prop} {r:F1} {q:M4} (h:eO μ F r q):∀ {rs:List F1} {qs:List M4},K0 μ F rs qs→K0 μ F (rs++ [r]) (qs++ [q])
 |_,_,.nil=> .cons h .nil
 |_,_,.cons a b=> .cons a (K0.snoc h b)
theorem K0.get {μ:Nat→Option Nat} {F:Nat→Prop}:∀ {rs:List F1} {qs:List M4},K0 μ F rs qs→∀ {k:Nat} {q:M4},A0 qs k=some q→∃ r,A0 rs k=some r∧eO μ F r q
 |_,_,.nil,k,q,e=>by cases k<;>cases e
 |_,_,.cons a b,0,q,e=>by cases e;exact ⟨_,rfl,a⟩
 |_,_,.cons a b,k+1,q,e=>K0.get b e
theorem K0.mono {μ μ':Nat→Option Nat} {F:Nat→Prop} (h:∀ o b,μ o=some b→μ' o=some b):∀ {rs:List F1} {qs:List M4},K0 μ F rs qs→K0 μ' F rs qs
 |_,_,.nil=> .nil
 |_,_,.cons a b=> .cons (a.mono h) (K0.mono h b)
theorem K0.all {μ:Nat→Option Nat} {F:Nat→Prop} (hinj:∀ o o' b,μ o=some b→μ o'=some b→o=o') {rs:List F1} {qs:List M4} (h:K0 μ F rs qs) {r:F1} {q:M4} (hr:eO μ F r q):∀ {l:List Nat},gJ qs q l=true→rE rs r l=true
 | [],_=>rfl
 |k::l,e=>by
  simp only[gJ,Bool.and_eq_true] at e
  obtain ⟨e1,e2⟩:=e
  split at e1
  case h_2=>cases e1
  rename_i p hp
  obtain ⟨r',a,b⟩:=h.get hp
  simp only[rE,Bool.and_eq_true,a]
  exact ⟨eO.ok hinj b hr e1,K0.all hinj h hr e2⟩
theorem SR.congr {C:D7} {st:l6} {h h':j5} {n p:Nat} {μ:Nat→Option Nat} {F:Nat→Prop} (hs:SR C st ⟨h,n,p⟩ μ F) (he:∀ i,d6 h' i=d6 h i):SR C st ⟨h',n,p⟩ μ F∧v6 C st ⟨h',n,p⟩ μ F=v6 C st ⟨h,n,p⟩ μ F:=by
 have hl:p5 C.E h'=p5 C.E h:=by
  funext a
  unfold p5
  split
  ·rfl
  ·rw[he]
  ·rfl
 have hw:v6 C st ⟨h',n,p⟩ μ F=v6 C st ⟨h,n,p⟩ μ F:=by
  show (⟨p5 C.E h',F,μ,st.next⟩:VW)=⟨p5 C.E h,F,μ,st.next⟩
  rw[hl]
 refine ⟨⟨fun o ob e hn=>?_,hs.wr,hs.fz,hs.inj,hs.dom,fun b hb=>?_,fun b hb=>?_,fun b hb=>?_,hs.n0,hs.own,fun b blk hb=>?_,hs.pr,hs.pb⟩,hw⟩
 ·rw[hw];simp only[he];exact hs.obj o ob e hn
 ·simp only[he];exact hs.lt b hb
 ·simp only[he];exact hs.cl b hb
 ·simp only[he];exact hs.un b hb
 ·exact hs.hb b blk (by rw[← he];exact hb)
theorem XH (l:List Nat) (h:j5) (i:Nat):oW (z8 l h) i=true→i ∈ l:=by
 intro hk
 induction h with
 |nil=>simp[z8,oW] at hk
 |cons p r ih=>
  obtain ⟨j,b⟩:=p
  simp only[z8] at hk
  split at hk
  ·rename_i hj
   simp only[oW] at hk
   split at hk
   ·rename_i e;rw[f5.1 e];exact (i6 _ _).1 hj
   ·exact ih hk
  ·exact ih hk
theorem mP (h:j5) (i:Nat) {b:r7} (e:d6 h i=some b):oW h i=true:=by
 induction h with
 |nil=>cases e
 |cons p r ih=>
  obtain ⟨j,u⟩:=p
  simp only[d6] at e
  simp only[oW]
  split
  ·rfl
  ·rename_i hj;rw[if_neg hj] at e;exact ih e
theorem XN (L:List Nat) (h:j5) (b:Nat) (blk blk':r7) (n:Nat) (hb:b ∈ L) (he:d6 h b=some blk) (i:Nat):
  d6 (fJ n n (z8 L h) (J8 (z8 L h) b blk')++bC L h) i=d6 (J8 h b blk') i:=by
 have hkb:d6 (z8 L h) b=some blk:=by rw[t8,if_pos ((i6 _ _).2 hb)];exact he
 rw[W1,cE]
 by_cases hi:i=b
 ·subst hi
  rw[if_pos (.inr (mP _ _ hkb)),V2,hkb,V2,he]
  rfl
 ·rw[Y1 blk' i b hi,Y1 blk' i b hi,t8]
  by_cases hL:i ∈ L
  ·rw[if_pos ((i6 _ _).2 hL),I4]
   have:j9 i L=true:=(i6 _ _).2 hL
   simp only[this]
   cases hg:d6 h i with
   |none=>simp
   |some u=>
    rw[if_pos (.inr (mP _ _ (by rw[t8,if_pos this];exact hg)))]
  ·have hf:j9 i L=false:=bE.2 hL
   rw[if_neg (by rintro (h1|h1);omega;exact hL (XH _ _ _ h1)),I4,hf]
   simp
def aR1 (μ μ':Nat→Option Nat) (k n k' n':Nat):Prop:=(∀ o b,μ o=some b→μ' o=some b)∧(∀ o b,μ' o=some b→μ o=some b∨(k≤o∧n≤b))∧k≤k'∧n≤n'
theorem aR1.rfl (μ:Nat→Option Nat) (k n:Nat):aR1 μ μ k n k n:=⟨fun _ _ e=>e,fun _ _ e=> .inl e,Nat.le_refl _,Nat.le_refl _⟩
section
variable {C:D7}
theorem YZ {st st':l6} {s:St} {μ:Nat→Option Nat} {F:Nat→Prop} {f:B8} {fI fr0:Fr} {o:I8} {hint:Option (List Nat)} {v:V} {q:M4} {conc:List Nat} {rs:List F1}
  (hsr:SR C st s μ F) (hf:FR (v6 C st s μ F) f fI) (h:RJ C.E.old f st o hint=some (v,st',q)):
  ∃ vI h' n' r μ',S2 C.E fr0 s.prot ⟨⟨none,none,o⟩,conc,hint⟩ rs fI s.heap s.next=some (vI,h',n',r)∧SR C st' ⟨h',n',s.prot⟩ μ' F∧b7 (v6 C st' ⟨h',n',s.prot⟩ μ' F) v vI∧VW.le (v6 C st s μ F) (v6 C st' ⟨h',n',s.prot⟩ μ' F)∧
   eO μ' F r q∧aR1 μ μ' st.next s.next st'.next n':=by
 unfold RJ at h
 split at h
 ·rename_i k a
  simp only[zM,Option.bind_eq_some_iff,Option.map_eq_some_iff,Prod.mk.injEq] at h
  obtain ⟨u,hu,v',hv,rfl,rfl,rfl⟩:=h
  obtain ⟨uI,a1,a2⟩:=j6 hf hu
  obtain ⟨vI,b1,b2⟩:=xY hsr.hr a2 hv
  split at b1
  case h_2=>cases b1
  rename_i ad
  have hkeep:W2 C.E (z8 (aL (.pointer (some ad))) s.heap) ad k=W2 C.E s.heap ad k:=by
   obtain ⟨i,j,sp⟩:=ad
   cases sp with
   |none=>cases k<;>rfl
   |some sp=>
    have e:d6 (z8 [i] s.heap) i=d6 s.heap i:=by rw[t8];simp[j9]
    cases k<;>simp only[aL,W2,p5,E0,e]
  refine ⟨vI,s.heap,s.next,⟨.only (aL (.pointer (some ad))),.only [],.fix []⟩,μ,?_,hsr,b2,VW.le.refl _,.mk3 (fun b hb=>?_) (fun b hb=>(by cases hb)) (fun b hb=>(by cases hb)),.rfl _ _ _⟩
  ·simp only[S2,a1,Option.bind_some,a8,hkeep,b1,kH,Option.map_some,u5,yP,List.length_nil,Nat.add_zero]
  ·obtain ⟨i,j,sp⟩:=ad
   cases sp with
   |none=>simp[aL] at hb
   |some sp=>
    simp only[aL,List.mem_singleton] at hb
    subst hb
    cases u with
    |ptr o j'=>
     refine .inr ⟨o,by simp[bU1],?_⟩
     simp only[b7] at a2
     obtain ⟨_,b',e,q⟩:=a2
     cases e
     have hob:∃ ob,f6 st.own o=some ob∧ob.none=false:=by
      simp only[aY] at hv
      split at hv
      ·rename_i he;exact ⟨_,he,rfl⟩
      ·rename_i he;exact ⟨_,he,rfl⟩
      ·rename_i t e z l he
       refine ⟨_,he,?_⟩
       cases l with
       |nil=>
        exfalso
        cases k with
        |none=>simp[E9,A0] at hv
        |some n=>cases n<;>simp[E9,A7] at hv
       |cons=>rfl
      ·cases hv
     obtain ⟨ob,he,hn⟩:=hob
     obtain ⟨b,blk,m1,m2,_⟩:=hsr.obj o ob he hn
     rw[m1,q b m1]
    |dp l o=>
     simp only[b7] at a2
     obtain ⟨a',e,hi,_⟩:=a2
     obtain ⟨ab,ao,asp⟩:=a'
     simp only[x5,Value.pointer.injEq,Option.some.injEq,Addr.mk.injEq] at e
     obtain ⟨rfl,_,rfl⟩:=e
     exact .inl hi
    |sc x=>
     have hx:=a2.ok
     have:=a2.scv
     subst this
     simp[A9] at hx
    |_=>simp[aY] at hv
 ·rename_i n a x
  split at h
  case isFalse=>
   unfold dE at h
   split at h
   case h_2=>cases h
   rename_i _ _ i k ys ha hx
   split at h
   case h_2=>cases h
   rename_i t e l ho
   split at h
   case isFalse=>cases h
   rename_i hc
   simp only[Bool.and_eq_true,Nat.ble_eq] at hc
   obtain ⟨⟨hro,hlen⟩,hsc⟩:=hc
   replace hlen:=f5.1 hlen
   simp only[Option.map_eq_some_iff,Prod.mk.injEq] at h
   obtain ⟨l',hl',rfl,rfl,rfl⟩:=h
   obtain ⟨aI,a1,a2⟩:=j6 hf ha
   obtain ⟨xI,x1,x2⟩:=j6 hf hx
   simp only[b7] at a2 x2
   obtain ⟨_,b',rfl,qq⟩:=a2
   obtain ⟨vs,rfl,x3⟩:=x2
   have hall:vs.all z1=true∧vs.length=ys.length:=by
    clear hlen hl' hx x1
    induction ys generalizing vs with
    |nil=>simp only[d8] at x3;subst x3;exact ⟨rfl,rfl⟩
    |cons y r ih=>
     simp only[d8] at x3
     obtain ⟨u,us,rfl,y1,y2⟩:=x3
     cases y with
     |sc z=>
      have hz:=y1.ok
      rw[y1.scv]
      obtain ⟨i1,i2⟩:=ih hsc us y2
      exact ⟨by simp[wQ z hz,i1],by simp[i2]⟩
     |sl a b c=>
      obtain ⟨i1,i2⟩:=ih hsc us y2
      simp only[b7,w9] at y1
      rcases y1 with ⟨_,_,rfl,_⟩|⟨_,_,_,rfl|⟨_,_,_,_,rfl⟩⟩
      all_goals exact ⟨by simp[z1,i1],by simp[i2]⟩
     |_=>cases hsc
   obtain ⟨b,blk,m1,m2,m3⟩:=hsr.obj i _ ho rfl
   obtain ⟨rs',r1,r2⟩:=jD hl' m3.2.2.2 x3
   have:=qq b m1
   subst this
   obtain ⟨g1,g2,g3⟩:=hsr.upd (fz:= []) (ob':= .box t e l') ho rfl hro m1 m2 rfl (by simp) rfl rfl rfl (fun w' k1 _ _=>(⟨m3.1,m3.2.1,m3.2.2.1,r2.mono k1⟩:oC w' (.box t e l') {blk with cells:=rs'}))
   rw[R4,x4] at g1 g2
   refine ⟨.tuple #[],J8 s.heap b' {blk with cells:=rs'},s.next,⟨.only [b'],.only [b'],.fix []⟩,μ,?_,g1,by simp only[b7,d8];exact ⟨[],rfl,rfl⟩,g2,.mk3 (fun b hb=> .inr ⟨i,by simp,by simp at hb;rw[hb];exact m1⟩) (fun b hb=>⟨by simp at hb;rw[hb];exact (hsr.wr i _ b' ho m1 rfl).1,i,by simp,by simp at hb;rw[hb];exact m1⟩) (fun b hb=>(by cases hb)),.rfl _ _ _⟩
   have e:d6 (z8 [b'] s.heap) b'=some blk:=by rw[t8];simp[j9,m2]
   have hast:=L8 (s:=⟨z8 [b'] s.heap,s.next,s.prot⟩) (k:=k) e g3 hall.1 r1
   simp only[S2,xC,a1,Option.bind_some,aL,m9,x1,Value.cells,hall.2,hlen,hast,Option.map_some]
   rw[if_pos (f5.2 rfl)]
   simp only[Option.bind_some]
   rw[if_pos (f5.2 rfl),V2,e]
   rfl
  rename_i hn1
  have hn1:=f5.1 hn1
  subst hn1
  unfold EO at h
  split at h
  case h_2=>cases h
  rename_i _ _ i k y ha hx
  obtain ⟨aI,a1,a2⟩:=j6 hf ha
  obtain ⟨xI,x1,x2⟩:=j6 hf hx
  have hy:=x2.ok
  rw[x2.scv] at x1
  simp only[b7] at a2
  obtain ⟨_,b',rfl,qq⟩:=a2
  have hone:y.cells.toList= [y]:=by cases y<;>first|rfl|(simp[A9] at hy)
  have fin:∀ {ob ob':Obj} {blk:r7} {b:Nat} {cs:List Value},f6 st.own i=some ob→ob.fz=false→μ i=some b→d6 s.heap b=some blk→st.ro≤i→ob'.none=false→ob'.fz=false→ob'.ok=true→N1 blk.cells k [y]=some cs→
    (∀ w',VW.le (v6 C st s μ F) w'→oC w' ob' {blk with cells:=cs})→v= .tup []→st'=⟨D6 st.own i ob',st.next,st.ro⟩→q=⟨[i],[i],[],false,false⟩→
    ∃ vI h' n' r μ',S2 C.E fr0 s.prot ⟨⟨none,none,.store 1 a x⟩,conc,hint⟩ rs fI s.heap s.next=some (vI,h',n',r)∧SR C st' ⟨h',n',s.prot⟩ μ' F∧b7 (v6 C st' ⟨h',n',s.prot⟩ μ' F) v vI∧VW.le (v6 C st s μ F) (v6 C st' ⟨h',n',s.prot⟩ μ' F)∧eO μ' F r q∧aR1 μ μ' st.next s.next st'.next n':=by
   intro ob ob' blk b cs e1 e2 e3 e4 e5 e6 e7 e8 e9 e10 r1 r2 r3
   subst r1 r2 r3
   have:=qq b e3
   subst this
   obtain ⟨g1,g2,g3⟩:=hsr.upd (fz:= []) e1 e2 e5 e3 e4 rfl (by simp) e6 e7 e8 (fun w' k1 _ _=>e10 w' k1)
   rw[R4,x4] at g1 g2
   refine ⟨.tuple #[],J8 s.heap b' {blk with cells:=cs},s.next,⟨.only [b'],.only [b'],.fix []⟩,μ,?_,g1,by simp only[b7,d8];exact ⟨[],rfl,rfl⟩,g2,.mk3 (fun b hb=> .inr ⟨i,by simp,by simp at hb;rw[hb];exact e3⟩) (fun b hb=>⟨by simp at hb;rw[hb];exact (hsr.wr i ob b' e1 e3 e2).1,i,by simp,by simp at hb;rw[hb];exact e3⟩) (fun b hb=>(by cases hb)),.rfl _ _ _⟩
   have e:d6 (z8 [b'] s.heap) b'=some blk:=by rw[t8];simp[j9,e4]
   have hall: [y].all z1=true:=by simp[wQ y hy]
   have hast:=L8 (s:=⟨z8 [b'] s.heap,s.next,s.prot⟩) (k:=k) e g3 hall e9
   simp only[S2,xC,a1,Option.bind_some,aL,m9,x1,hone,List.length_singleton,hast,Option.map_some]
   rw[if_pos (show Nat.beq 1 1=true from rfl)]
   simp only[Option.bind_some]
   rw[if_pos (f5.2 rfl),V2,e]
   rfl
  have hput:∀ {α:Type} (l:List α) (x:α),k<l.length→B9 l k [x]=some (l.set k x):=fun l x hk=>W6 _ _ _ hk
  unfold mK at h
  split at h
  ·rename_i t e g l ho
   split at h
   case isFalse=>cases h
   rename_i hc
   simp only[Bool.and_eq_true,Nat.ble_eq,Nat.blt_eq] at hc
   cases h
   obtain ⟨b,blk,m1,m2,m3⟩:=hsr.obj i _ ho rfl
   obtain ⟨rs',r1,r2⟩:=O7 (hput l (D.sc y) hc.2) m3.2.2.2 (show i7 (v6 C st s μ F) [D.sc y] [y] by simp only[i7,w9];exact ⟨y,[],rfl,⟨rfl,hy⟩,rfl⟩)
   refine fin (ob':= .row t e g false (l.set k (.sc y))) ho rfl m1 m2 hc.1 rfl rfl ?_ r1 (fun w' k1=>⟨m3.1,m3.2.1,m3.2.2.1,r2.mono k1⟩) rfl rfl rfl
   exact J2 (hput l (D.sc y) hc.2) (hsr.own i _ ho).2 rfl
  ·rename_i t e l ho
   split at h
   case isFalse=>cases h
   rename_i hc
   simp only[Bool.and_eq_true,Nat.ble_eq,Nat.blt_eq] at hc
   cases h
   obtain ⟨b,blk,m1,m2,m3⟩:=hsr.obj i _ ho rfl
   obtain ⟨rs',r1,r2⟩:=jD (hput l (V.sc y) hc.2) m3.2.2.2 (show d8 (v6 C st s μ F) [V.sc y] [y] by simp only[d8,b7];exact ⟨y,[],rfl,⟨rfl,hy⟩,rfl⟩)
   exact fin (ob':= .box t e (l.set k (.sc y))) ho rfl m1 m2 hc.1 rfl rfl rfl r1 (fun w' k1=>⟨m3.1,m3.2.1,m3.2.2.1,r2.mono k1⟩) rfl rfl rfl
  ·rename_i t e l ho
   split at h
   case isFalse=>cases h
   rename_i hc
   simp only[Bool.and_eq_true,Nat.ble_eq,Nat.blt_eq] at hc
   cases h
   have hln:(Obj.gro t e false l).none=false:=by cases l with|nil=>simp at hc|cons=>rfl
   obtain ⟨b,blk,m1,m2,m3⟩:=hsr.obj i _ ho hln
   obtain ⟨rs',r1,r2⟩:=O7 (hput l (D.sc y) hc.2) m3.2.2.2 (show i7 (v6 C st s μ F) [D.sc y] [y] by simp only[i7,w9];exact ⟨y,[],rfl,⟨rfl,hy⟩,rfl⟩)
   refine fin (ob':= .gro t e false (l.set k (.sc y))) ho rfl m1 m2 hc.1 ?_ rfl ?_ r1 (fun w' k1=>⟨m3.1,m3.2.1,m3.2.2.1,r2.mono k1⟩) rfl rfl rfl
   ·cases h1:l.set k (D.sc y) with
    |nil=>have:=congrArg List.length h1;simp at this;subst this;simp at hc
    |cons=>rfl
   ·exact J2 (hput l (D.sc y) hc.2) (hsr.own i _ ho).2 rfl
  ·cases h
 ·rename_i e d x
  unfold aB5 at h
  split at h
  case h_2=>cases h
  rename_i _ _ i k n c i2 k2 m c2 hd hx
  split at h
  case h_2=>cases h
  rename_i t e' g l ho
  simp only[Option.bind_eq_some_iff] at h
  obtain ⟨cs,hcs,h⟩:=h
  split at h
  case isFalse=>cases h
  rename_i hcond
  simp only[Bool.and_eq_true,Nat.ble_eq,List.isEmpty_iff] at hcond
  obtain ⟨⟨⟨hro,hok⟩,hfz⟩,hnz⟩:=hcond
  simp only[Option.map_eq_some_iff,Prod.mk.injEq] at h
  obtain ⟨l',hl',rfl,rfl,rfl⟩:=h
  obtain ⟨dI,d1,d2⟩:=j6 hf hd
  obtain ⟨xI,x1,x2⟩:=j6 hf hx
  obtain ⟨us,u1,u2⟩:=(S1 hsr.hr x2 hcs (fun j hj=>by simp only[N9,S7,Option.some.injEq] at hj;subst hj;exact Nat.min_le_left _ _)).plain hsr.hr hfz
  have hob2:∃ ob,f6 st.own i2=some ob:=by
   simp only[H5] at hcs
   cases hob:f6 st.own i2 with
   |none=>rw[hob] at hcs;cases hcs
   |some ob=>exact ⟨ob,rfl⟩
  obtain ⟨ob2,hob2⟩:=hob2
  have hon2:ob2.none=false:=by
   cases ob2 with
   |gro t z e0 l0=>
    cases l0 with
    |cons=>rfl
    |nil=>
     exfalso
     simp only[H5,hob2] at hcs
     split at hcs
     ·rename_i hh
      obtain ⟨h1,h2,h3⟩:=hh
      simp only[List.length_nil,Nat.le_zero,Nat.add_eq_zero_iff] at h1
      rcases Nat.mul_eq_zero.1 h1.2 with h|h
      ·exact h2 h
      ·exact h3 h
     ·cases hcs
   |_=>rfl
  obtain ⟨b,blk,m1,m2,m3⟩:=hsr.obj i _ ho rfl
  obtain ⟨b2,blk2,w1,w2,w3⟩:=hsr.obj i2 _ hob2 hon2
  have hwr2:=hsr.wr i2 ob2 b2 hob2 w1
  simp only[b7] at d2 x2
  obtain ⟨_,_,b',rfl,qd⟩:=d2
  obtain ⟨_,_,b2',rfl,qx⟩:=x2
  have:=qd b m1
  subst this
  have:=qx b2 w1
  subst this
  obtain ⟨rs,r1,r2⟩:=O7 hl' m3.2.2.2 u2
  obtain ⟨g1,g2,g3⟩:=hsr.upd (fz:= []) (ob':= .row t e' g false l') (blk':={blk with cells:=rs}) ho rfl hro m1 m2 rfl (by simp) rfl rfl (J2 hl' (hsr.own i _ ho).2 hok) (fun w' k1 _ _=>⟨m3.1,m3.2.1,m3.2.2.1,r2.mono k1⟩)
  rw[R4,x4] at g1 g2
  have hids:p8 0 (.slice (some ⟨b',k,some 0⟩) n c)++p8 0 (.slice (some ⟨b2',k2,some 0⟩) m c2)= [b',b2']:=by
   simp only[p8,l8,Nat.zero_le,if_true,Nat.ble_eq]
   rfl
  have hkb:d6 (z8 [b',b2'] s.heap) b'=some blk:=by rw[t8,if_pos (by simp[j9])];exact m2
  have hkb2:d6 (z8 [b',b2'] s.heap) b2'=d6 s.heap b2':=by
   rw[t8,if_pos]
   rw[i6]
   simp
  have hsrc:m6 C.E (z8 [b',b2'] s.heap) e (Nat.min m n) (.slice (some ⟨b2',k2,some 0⟩) m c2)=some us:=by
   rw[← u1]
   simp only[m6,E0,hkb2]
  have hast:=L8 (s:=⟨z8 [b',b2'] s.heap,s.next,s.prot⟩) (k:=k) hkb g3 u2.one r1
  have hheap:=XN [b',b2'] s.heap b' blk {blk with cells:=rs} s.next (by simp) m2
  obtain ⟨q1,q2⟩:=SR.congr g1 hheap
  have hz2:ob2.fz=false:=by rw[hob2] at hnz;simpa using hnz
  refine ⟨.int .i64 (Nat.min m n),_,s.next,⟨.only [b',b2'],.only [b',b2'],.rng s.next s.next⟩,μ,?_,q1,?_,?_,.mkr (fun z hz=>?_) (fun z hz=>?_),.rfl _ _ _⟩
  ·simp only[S2,d1,x1,Option.bind_some,hids,kM,a8,A8,iC]
   rw[if_pos (by rw[Nat.ble_eq];exact hsr.pr)]
   simp only[m9,d1,x1,Option.bind_some,lenA,hsrc,hast,Option.map_some]
   rw[if_pos (by rw[Nat.ble_eq];exact Nat.le_refl _)]
  ·exact .mksc rfl
  ·rw[q2];exact g2
  ·simp only[List.mem_cons,List.not_mem_nil,or_false] at hz
   rcases hz with rfl|rfl
   ·exact .inr ⟨i,by simp,m1⟩
   ·exact .inr ⟨i2,by simp,w1⟩
  ·simp only[List.mem_cons,List.not_mem_nil,or_false] at hz
   rcases hz with rfl|rfl
   ·exact ⟨(hsr.wr i _ z ho m1 rfl).1,i,by simp,m1⟩
   ·exact ⟨(hwr2 hz2).1,i2,by simp,w1⟩
 ·rename_i hnl hns hcp
  split at h
  case isFalse=>cases h
  rename_i hc
  rw[Bool.and_eq_true] at hc
  obtain ⟨hc1,hc2⟩:=hc
  have hh:hint=none:=by cases hint with|none=>rfl|some _=>cases hc1
  subst hh
  have hls:bY4 o=false:=by cases o<;>first|rfl|cases hc2
  have hst:S2 C.E fr0 s.prot ⟨⟨none,none,o⟩,conc,none⟩ rs fI s.heap s.next=kH (.only []) s.heap s.next (a8 C.E fI ⟨s.heap,s.next,s.next⟩ o):=by
   rw[← XU (h:=s.heap) hc2]
   cases o<;>first|rfl|cases hls
  rw[hst]
  have go:∀ {v2:V} {ob:Option Obj},d7 C.E.old f st.own st.next o=some (v2,ob,[])→∃ vI bs,a8 C.E fI ⟨s.heap,s.next,s.next⟩ o=some (vI,bs)∧eV s.heap (v6 C st s μ F) s.next v2 ob [] vI bs:=fun e=>pV (n:=s.next) (p:=s.next) hsr.hr hf e
  unfold IP at h
  split at h
  ·rename_i v2 e
   simp only[Option.some.injEq,Prod.mk.injEq] at h
   obtain ⟨rfl,rfl,rfl⟩:=h
   obtain ⟨vI,bs,e1,e2⟩:=go e
   obtain ⟨rfl,_,e4⟩:=e2
   exact ⟨vI,s.heap,s.next,⟨.only [],.only [],.fix []⟩,μ,by simp[e1,kH,u5,yP],hsr,e4,VW.le.refl _,.mk3 (fun b hb=>(by cases hb)) (fun b hb=>(by cases hb)) (fun b hb=>(by cases hb)),.rfl _ _ _⟩
  ·rename_i v2 ob e
   simp only[Option.some.injEq,Prod.mk.injEq] at h
   obtain ⟨rfl,rfl,rfl⟩:=h
   obtain ⟨vI,bs,e1,e2⟩:=go e
   obtain ⟨q1,q2,q3,q4⟩:=hsr.push e2 rfl
   rw[R4] at q1 q2 q3
   obtain ⟨_,_,_,blk,rfl,_⟩:=e2
   have hp:st.push (some ob) []=⟨(st.next,ob)::st.own,st.next+1,st.ro⟩:=by simp[l6.push,x4]
   rw[hp] at q1 q2 q3
   refine ⟨vI,u5 s.heap s.next [blk],s.next+1,⟨.only [],.only [],.fix [s.next]⟩,_,by simp[e1,kH,yP],q1,q2,q3,.mk3 (fun b hb=>(by cases hb)) (fun b hb=>(by cases hb)) (fun b hb=>?_),fun o' b e'=>?_,fun o' b e'=>?_,Nat.le_succ _,Nat.le_succ _⟩
   ·simp only[List.mem_singleton] at hb
    subst hb
    exact ⟨fun hF=>Nat.lt_irrefl _ (hsr.lt _ hF).1,st.next,by simp,by simp[QD]⟩
   ·have:=(hsr.dom o' b e').2.1
    simp only[QD]
    rw[if_neg (by omega)]
    exact e'
   ·simp only[QD] at e'
    split at e'
    ·cases e';exact .inr ⟨by omega,Nat.le_refl _⟩
    ·exact .inl e'
  ·cases h
theorem aE (L:List Nat) (b:Nat) (hb:b ∈ L):∀ h:j5,d6 (E5 (z8 L h) b) b=d6 (E5 h b) b
 | []=>rfl
 |(j,u)::r=>by
  simp only[z8,E5]
  by_cases hj:Nat.beq b j=true
  ·have:=f5.1 hj
   subst this
   rw[if_pos ((i6 _ _).2 hb)]
   simp only[E5,if_pos hj]
   rw[t8,if_pos ((i6 _ _).2 hb)]
  ·rw[if_neg hj]
   simp only[d6]
   rw[if_neg hj]
   split
   ·simp only[E5,if_neg hj,d6]
    exact aE L b hb r
   ·exact aE L b hb r
theorem PX (L:List Nat) (h:j5) (b n p:Nat) (blk':r7) (hb:b ∈ L) (i:Nat):
  d6 (fJ n (n+1) (z8 L h) (St.push ⟨E5 (z8 L h) b,n,p⟩ [blk']).heap++bC L h) i=d6 (St.push ⟨E5 h b,n,p⟩ [blk']).heap i:=by
 simp only[St.push]
 rw[W1,cE,s9,s9]
 by_cases hi:n≤i∧i<n+1
 ·have hi':n≤i∧i<n+ [blk'].length:=hi
  rw[if_pos (.inl hi),if_pos hi',if_pos hi']
  have:i - n=0:=by omega
  rw[this];rfl
 ·have hi':¬ (n≤i∧i<n+ [blk'].length):=hi
  rw[if_neg hi',if_neg hi']
  by_cases hib:i=b
  ·subst hib
   rw[aE L i hb,I4,if_pos ((i6 _ _).2 hb)]
   split<;>rename_i hh
   ·split at hh
    ·rw[hh]
    ·cases hh
   ·split at hh
    ·rw[hh]
    ·rename_i hk
     cases hg:d6 (E5 h i) i with
     |none=>rfl
     |some u=>
      exfalso
      obtain ⟨c,hc⟩:=aF h i i u hg
      exact hk (.inr (mP _ _ (by rw[t8,if_pos ((i6 _ _).2 hb)];exact hc)))
  ·rw[E6 _ _ _ hib,E6 _ _ _ hib,t8,I4]
   by_cases hL:i ∈ L
   ·rw[if_pos ((i6 _ _).2 hL),if_pos ((i6 _ _).2 hL)]
    cases hg:d6 h i with
    |none=>simp
    |some u=>rw[if_pos (.inr (mP _ _ (by rw[t8,if_pos ((i6 _ _).2 hL)];exact hg)))]
   ·have hf:j9 i L=false:=bE.2 hL
    simp only[hf,Bool.false_eq_true,if_false]
    simp
def aR6 (C:D7) (st st':l6) (s:St) (h':j5) (n':Nat) (μ μ':Nat→Option Nat) (F:Nat→Prop) (v:V) (vI:Value) (r:F1) (q:M4):Prop:=
 SR C st' ⟨h',n',s.prot⟩ μ' F∧b7 (v6 C st' ⟨h',n',s.prot⟩ μ' F) v vI∧VW.le (v6 C st s μ F) (v6 C st' ⟨h',n',s.prot⟩ μ' F)∧(∀ ν:Nat→Option Nat,(∀ o b,μ o=some b→ν o=some b)→(∀ o b,μ' o=some b→ν o=some b)→eO ν F r q)∧
  (∀ o b,μ' o=some b→μ o=some b∨(st.next≤o∧s.next≤b))∧st.next≤st'.next∧s.next≤n'
theorem aT2 {st st':l6} {s:St} {μ:Nat→Option Nat} {F:Nat→Prop} {f:B8} {fI fr0:Fr} {t e b:Nat} {x y:Operand} {hint:Option (List Nat)} {v:V} {q:M4} {conc:List Nat} {rs:List F1}
  (hsr:SR C st s μ F) (hf:FR (v6 C st s μ F) f fI) (h:bF8 st t e b (m8 f x) (m8 f y)=some (v,st',q)):
  ∃ vI h' n' r μ',S2 C.E fr0 s.prot ⟨⟨none,none,.app t e b x y⟩,conc,hint⟩ rs fI s.heap s.next=some (vI,h',n',r)∧aR6 C st st' s h' n' μ μ' F v vI r q:=by
 unfold bF8 at h
 split at h
 case h_2=>cases h
 rename_i _ _ s' o n o2 k2 m c2 hx hy
 split at h
 case h_2=>cases h
 rename_i _ _ t' e' l t2 e2 g2 l2 ho ho2
 split at h
 case isFalse=>cases h
 rename_i hc
 simp only[Bool.and_eq_true,Bool.not_eq_true',OU,Nat.ble_eq] at hc
 obtain ⟨⟨⟨⟨⟨⟨⟨⟨⟨⟨hro,hn0⟩,hm0⟩,he0⟩,ht⟩,he⟩,hl⟩,hr1⟩,hr2⟩,hk2⟩,hok⟩:=hc
 have ht:=f5.1 ht
 have he:=f5.1 he
 have hl:=f5.1 hl
 subst ht he
 simp only[Option.some.injEq,Prod.mk.injEq] at h
 obtain ⟨rfl,rfl,rfl⟩:=h
 obtain ⟨xI,x1,x2⟩:=j6 hf hx
 obtain ⟨yI,y1,y2⟩:=j6 hf hy
 have hcs:H5 st.own e' m (.ref o2 k2 m c2)=some ((l2.drop k2).take (m*e'),[]):=by
  simp only[H5,ho2]
  rw[if_pos hk2]
 have hlen:=mV y2 (show N9 (.ref o2 k2 m c2)=some m from rfl)
 obtain ⟨us,u1,u2⟩:=(S1 hsr.hr y2 hcs (fun j hj=>by simp only[N9,S7,Option.some.injEq] at hj;subst hj;exact Nat.le_refl _)).plain hsr.hr rfl
 have hln:l ≠ []:=fun e0=>by
  rw[e0] at hl
  have:=Nat.mul_pos (Nat.pos_of_ne_zero hn0) (Nat.pos_of_ne_zero he0)
  simp at hl;omega
 obtain ⟨b0,blk,m1,m2,m3⟩:=hsr.obj o _ ho (K8 hln)
 obtain ⟨b2,blk2,w1,w2,w3⟩:=hsr.obj o2 _ ho2 rfl
 have hcl:=m3.2.2.2.length
 simp only[b7] at x2 y2
 obtain ⟨_,⟨hn,_⟩|⟨_,b',rfl,qx⟩⟩:=x2
 ·exact absurd hn hn0
 obtain ⟨_,_,b2',rfl,qy⟩:=y2
 have:=qx b0 m1
 subst this
 have:=qy b2 w1
 subst this
 obtain ⟨d1,d2,d3⟩:=hsr.del ho rfl hro m1
 have hokl:V4 (l++(l2.drop k2).take (m*e'))=true:=by
  have:=(hsr.own o _ ho).2
  simp only[Obj.ok] at this
  simp only[V4,List.all_append,Bool.and_eq_true];exact ⟨this,hok⟩
 have hne:l++(l2.drop k2).take (m*e') ≠ []:=by simp[hln]
 have hP:eV (E5 s.heap b') (v6 C ⟨I9 o st.own,st.next,st.ro⟩ {s with heap:=E5 s.heap b'} (fun i=>if i=o then none else μ i) F) s.next (.gr 2 st.next (n+m)) (some (.gro t' e' false (l++(l2.drop k2).take (m*e')))) [] (.slice (some ⟨s.next,0,some 0⟩) (n+m) (s6+(n+m))) [⟨blk.cells++us,e',true,t'⟩]:=
  ⟨K8 hne,rfl,hokl,_,rfl,fun w' k1 _ _ k4 k5=>⟨.gr_new k4 k5 (n+m) (by omega),rfl,rfl,rfl,(m3.2.2.2.mono (d2.trans k1)).append (u2.mono (d2.trans k1))⟩⟩
 obtain ⟨p1,p2,p3,p4⟩:=d1.push hP rfl
 rw[R4] at p1 p2 p3
 simp only[l6.push,x4] at p1 p2 p3
 have hids:p8 0 (.slice (some ⟨b',0,some 0⟩) n (s6+n))++p8 0 (.slice (some ⟨b2',k2,some 0⟩) m c2)= [b',b2']:=by
  simp only[p8,l8,Nat.zero_le,if_true,Nat.ble_eq]
  rfl
 have hkb:d6 (z8 [b',b2'] s.heap) b'=some blk:=by rw[t8,if_pos (by simp[j9])];exact m2
 have hkb2:d6 (z8 [b',b2'] s.heap) b2'=d6 s.heap b2':=by
  rw[t8,if_pos]
  rw[i6]
  simp
 have hsrc:m6 C.E (z8 [b',b2'] s.heap) e' m (.slice (some ⟨b2',k2,some 0⟩) m c2)=some us:=by
  rw[← u1]
  simp only[m6,E0,hkb2]
 have hone:us.all z1=true:=u2.one
 have hnb:Nat.blt (s6+n) s6=false:=by rw[← Bool.not_eq_true,Nat.blt_eq];omega
 have h0:¬ Nat.beq m 0=true:=by rw[f5];exact hm0
 have hheap:=PX [b',b2'] s.heap b' s.next s.next ⟨blk.cells++us,e',true,t'⟩ (by simp)
 have p1':SR C _ ⟨(St.push ⟨E5 s.heap b',s.next,s.next⟩ [⟨blk.cells++us,e',true,t'⟩]).heap,s.next+1,s.prot⟩ _ F:=p1
 obtain ⟨q1,q2⟩:=SR.congr p1' hheap
 have hnF:∀ z,μ o2=some z→¬ F z:=fun z hz=>(hsr.wr o2 _ z ho2 hz rfl).1
 have hnF1:∀ z,μ o=some z→¬ F z:=fun z hz=>(hsr.wr o _ z ho hz rfl).1
 refine ⟨.slice (some ⟨s.next,0,some 0⟩) (n+m) (s6+(n+m)),_,s.next+1,⟨.only [b',b2'],.only [b',b2'],.rng s.next (s.next+1)⟩,_,?_,q1,?_,?_,fun ν k1 k2=>?_,fun i z e'=>?_,Nat.le_succ _,Nat.le_succ _⟩
 ·simp only[S2,x1,y1,Option.bind_some,hids,kM,a8,A8,iC]
  rw[show V8 C.E ⟨z8 [b',b2'] s.heap,s.next,s.next⟩ t' e' b (.slice (some ⟨b',0,some 0⟩) n (s6+n)) (.slice (some ⟨b2',k2,some 0⟩) m c2)=none by
   simp only[V8,hlen,Option.bind_some]
   rw[if_neg h0,if_neg (by simp[hnb])]]
  simp only
  rw[if_pos (by rw[Nat.ble_eq];exact hsr.pr)]
  simp only[m9,x1,y1,Option.bind_some]
  have:fA C.E ⟨z8 [b',b2'] s.heap,s.next,s.prot⟩ t' e' b (.slice (some ⟨b',0,some 0⟩) n (s6+n)) (.slice (some ⟨b2',k2,some 0⟩) m c2)=some (.slice (some ⟨s.next,0,some 0⟩) (n+m) (s6+(n+m)),St.push ⟨E5 (z8 [b',b2'] s.heap) b',s.next,s.prot⟩ [⟨blk.cells++us,e',true,t'⟩]):=by
   simp only[fA,hlen,Option.bind_some]
   rw[if_neg h0,if_pos (by simp only[Bool.and_eq_true,Nat.ble_eq];exact ⟨hr1,hr2⟩),hsrc]
   simp only[Option.bind_some]
   rw[if_pos hone,if_neg (by rw[hnb];simp),if_pos (by rw[Nat.ble_eq];exact d3),hkb]
   simp only[Option.bind_some]
   rw[if_pos (by simp only[Bool.and_eq_true];rw[m3.1,m3.2.1,m3.2.2.1,hcl,hl];refine ⟨⟨⟨⟨rfl,f5.2 rfl⟩,f5.2 rfl⟩,f5.2 (by omega)⟩,f5.2 rfl⟩)]
   rfl
  rw[this]
  simp only[Option.bind_some]
  rw[if_pos (by rw[Nat.ble_eq];exact Nat.le_succ _)]
  rfl
 ·rw[q2];exact p2
 ·rw[q2];exact d2.trans p3
 ·refine ⟨_,_,_,rfl,.inl ⟨rfl,_,rfl,fun z hz=>?_⟩,fun z hz=>?_,.inr ⟨rfl,.inr ⟨_,rfl,fun hF=>Nat.lt_irrefl _ (hsr.lt _ hF).1,st.next,by simp,k2 _ _ (by simp[QD])⟩⟩⟩
  ·simp only[List.mem_cons,List.not_mem_nil,or_false] at hz
   rcases hz with rfl|rfl
   ·exact .inr ⟨o,by simp,k1 _ _ m1⟩
   ·exact .inr ⟨o2,by simp,k1 _ _ w1⟩
  ·simp only[List.mem_cons,List.not_mem_nil,or_false] at hz
   rcases hz with rfl|rfl
   ·exact ⟨hnF1 _ m1,o,by simp,k1 _ _ m1⟩
   ·exact ⟨hnF _ w1,o2,by simp,k1 _ _ w1⟩
 ·simp only[QD] at e'
  split at e'
  ·cases e';exact .inr ⟨by omega,Nat.le_refl _⟩
  ·split at e'
   ·cases e'
   ·exact .inl e'
theorem IK {st st':l6} {s:St} {μ:Nat→Option Nat} {F:Nat→Prop} {f:B8} {fI fr0:Fr} {t e b:Nat} {x y:Operand} {hint:Option (List Nat)} {v:V} {q:M4} {conc:List Nat} {rs:List F1}
  (hsr:SR C st s μ F) (hf:FR (v6 C st s μ F) f fI) {u:V} (hx:m8 f x=some u) (hu:∀ (w:VW) (xI:Value),b7 w u xI→xI= .slice none 0 0) (h:SI st t e b (m8 f y)=some (v,st',q)):
  ∃ vI h' n' r μ',S2 C.E fr0 s.prot ⟨⟨none,none,.app t e b x y⟩,conc,hint⟩ rs fI s.heap s.next=some (vI,h',n',r)∧aR6 C st st' s h' n' μ μ' F v vI r q:=by
 unfold SI at h
 split at h
 case h_2=>cases h
 rename_i _ o2 k2 m c2 hy
 split at h
 case h_2=>cases h
 rename_i _ t2 e2 g2 l2 ho2
 split at h
 case isFalse=>cases h
 rename_i hc
 simp only[Bool.and_eq_true,Bool.not_eq_true',OU,Nat.ble_eq] at hc
 obtain ⟨⟨⟨⟨⟨hm0,he0⟩,hr1⟩,hr2⟩,hk2⟩,hok⟩:=hc
 simp only[Option.some.injEq,Prod.mk.injEq] at h
 obtain ⟨rfl,rfl,rfl⟩:=h
 obtain ⟨xI,x1,x2⟩:=j6 hf hx
 obtain ⟨yI,y1,y2⟩:=j6 hf hy
 have hxI:=hu _ _ x2
 subst hxI
 have hcs:H5 st.own e m (.ref o2 k2 m c2)=some ((l2.drop k2).take (m*e),[]):=by
  simp only[H5,ho2]
  rw[if_pos hk2]
 have hlen:=mV y2 (show N9 (.ref o2 k2 m c2)=some m from rfl)
 obtain ⟨us,u1,u2⟩:=(S1 hsr.hr y2 hcs (fun j hj=>by simp only[N9,S7,Option.some.injEq] at hj;subst hj;exact Nat.le_refl _)).plain hsr.hr rfl
 obtain ⟨b2,blk2,w1,w2,w3⟩:=hsr.obj o2 _ ho2 rfl
 simp only[b7] at y2
 obtain ⟨_,_,b2',rfl,qy⟩:=y2
 have:=qy b2 w1
 subst this
 have hne:(l2.drop k2).take (m*e) ≠ []:=fun e0=>by
  have h1:=congrArg List.length e0
  have:=Nat.mul_pos (Nat.pos_of_ne_zero hm0) (Nat.pos_of_ne_zero he0)
  simp at h1
  omega
 have hP:eV s.heap (v6 C st s μ F) s.next (.gr 2 st.next m) (some (.gro t e false ((l2.drop k2).take (m*e)))) [] (.slice (some ⟨s.next,0,some 0⟩) m (s6+m)) [⟨us,e,true,t⟩]:=
  ⟨K8 hne,rfl,hok,_,rfl,fun w' k1 _ _ k4 k5=>⟨.gr_new k4 k5 m hm0,rfl,rfl,rfl,u2.mono k1⟩⟩
 obtain ⟨p1,p2,p3,p4⟩:=hsr.push hP rfl
 rw[R4] at p1 p2 p3
 simp only[l6.push,x4] at p1 p2 p3
 have hids:p8 0 (.slice none 0 0)++p8 0 (.slice (some ⟨b2',k2,some 0⟩) m c2)= [b2']:=by
  simp only[p8,l8,Nat.zero_le,if_true,Nat.ble_eq]
  rfl
 have hkb2:d6 (z8 [b2'] s.heap) b2'=d6 s.heap b2':=by
  rw[t8,if_pos]
  rw[i6]
  simp
 have hsrc:m6 C.E (z8 [b2'] s.heap) e m (.slice (some ⟨b2',k2,some 0⟩) m c2)=some us:=by
  rw[← u1]
  simp only[m6,E0,hkb2]
 have h0:¬ Nat.beq m 0=true:=by rw[f5];exact hm0
 refine ⟨.slice (some ⟨s.next,0,some 0⟩) m (s6+m),_,s.next+1,⟨.only [b2'],.only [],.fix [s.next]⟩,_,?_,p1,p2,p3,fun ν k1 k2=>⟨_,_,_,rfl,.inl ⟨rfl,_,rfl,fun z hz=>?_⟩,fun z hz=>(by cases hz),.inl ⟨rfl,_,rfl,fun z hz=>?_⟩⟩,fun i z e'=>?_,Nat.le_succ _,Nat.le_succ _⟩
 ·simp only[S2,x1,y1,Option.bind_some,hids,kM,a8,A8]
  have:V8 C.E ⟨z8 [b2'] s.heap,s.next,s.next⟩ t e b (.slice none 0 0) (.slice (some ⟨b2',k2,some 0⟩) m c2)=some (.slice (some ⟨s.next,0,some 0⟩) m (s6+m),[⟨us,e,true,t⟩]):=by
   simp only[V8,hlen,Option.bind_some]
   rw[if_neg h0,if_pos (by simp only[Bool.and_eq_true,Nat.ble_eq,Nat.blt_eq,Nat.zero_add];exact ⟨⟨⟨hr1,hr2⟩,by unfold s6;omega⟩,by omega⟩),hsrc]
   simp only[Option.bind_some,m6,Nat.zero_add]
   rfl
  rw[this]
  rfl
 ·simp only[List.mem_singleton] at hz
  subst hz
  exact .inr ⟨o2,by simp,k1 _ _ w1⟩
 ·simp only[List.mem_singleton] at hz
  subst hz
  exact ⟨fun hF=>Nat.lt_irrefl _ (hsr.lt _ hF).1,st.next,by simp,k2 _ _ (by simp[QD])⟩
 ·simp only[QD] at e'
  split at e'
  ·cases e';exact .inr ⟨by omega,Nat.le_refl _⟩
  ·exact .inl e'
theorem aB4 {st st':l6} {s:St} {μ:Nat→Option Nat} {F:Nat→Prop} {f:B8} {fI fr0:Fr} {t e b:Nat} {x y:Operand} {hint:Option (List Nat)} {v:V} {q:M4} {conc:List Nat} {rs:List F1}
  (hsr:SR C st s μ F) (hf:FR (v6 C st s μ F) f fI) (h:aB3 st t e b (m8 f x) (m8 f y)=some (v,st',q)):
  ∃ vI h' n' r μ',S2 C.E fr0 s.prot ⟨⟨none,none,.app t e b x y⟩,conc,hint⟩ rs fI s.heap s.next=some (vI,h',n',r)∧aR6 C st st' s h' n' μ μ' F v vI r q:=by
 unfold aB3 at h
 split at h
 ·rename_i hx
  exact IK hsr hf hx (fun w xI h=>h.scv) h
 ·rename_i hx
  refine IK hsr hf hx (fun w xI h=>?_) h
  simp only[b7] at h
  obtain ⟨_,⟨_,h|⟨h,_⟩⟩|⟨h,_⟩⟩:=h
  ·exact h
  ·exact absurd rfl h
  ·exact absurd rfl h
 ·exact aT2 hsr hf h
theorem AG {μ:Nat→Option Nat} {F:Nat→Prop} {rs:List F1} {qs:List M4} (h:K0 μ F rs qs):∀ conc,FA qs conc=true→FU rs conc= []
 | [],_=>rfl
 |k::r,hk=>by
  simp only[FA,Bool.and_eq_true] at hk
  obtain ⟨h1,h2⟩:=hk
  cases hq:A0 qs k with
  |none=>rw[hq] at h1;cases h1
  |some q=>
   rw[hq] at h1
   simp only[Bool.and_eq_true,List.isEmpty_iff,Bool.not_eq_true'] at h1
   obtain ⟨w,e1,vv,lw,nw,rfl,_,_,e4⟩:=h.get hq
   rcases e4 with ⟨_,ln,rfl,e5⟩|⟨e5,_⟩
   ·have:ln= []:=by
     cases ln with
     |nil=>rfl
     |cons b r=>
      obtain ⟨_,o,ho,_⟩:=e5 b (by simp)
      rw[h1.1] at ho
      cases ho
    subst this
    simp only[FU,e1,List.nil_append,AG h r h2]
   ·rw[h1.2] at e5;cases e5
theorem bN1 {st:l6} {s:St} {μ ν:Nat→Option Nat} {F:Nat→Prop} {f:B8} {fI fr0:Fr} {o:I8} {hint:Option (List Nat)} {conc:List Nat} {rs:List F1} {qs:List M4} {Q:V→l6→M4→Prop}
  (hsr:SR C st s μ F) (hf:FR (v6 C st s μ F) f fI) (hrs:K0 ν F rs qs) (h:wpS C o hint conc qs f st Q):
  ∃ v st' q vI h' n' r μ',S2 C.E fr0 s.prot ⟨⟨none,none,o⟩,conc,hint⟩ rs fI s.heap s.next=some (vI,h',n',r)∧aR6 C st st' s h' n' μ μ' F v vI r q∧Q v st' q:=by
 unfold wpS at h
 split at h
 ·rename_i g xs
  obtain ⟨rfl,hfr,args,v,hargs,hsp,hq⟩:=h
  obtain ⟨xsI,a1,a2⟩:=Y6 hf hargs
  obtain ⟨vI,e1,e2⟩:=hsp ⟨s.heap,s.next,s.next⟩ μ F xsI C.w0 (hsr.enter C.w0) a2
  refine ⟨v,st,_,vI,s.heap,s.next,⟨.but [],.only [],.fix []⟩,μ,?_,⟨hsr,e2 _,VW.le.refl _,fun ν' _ _=>⟨_,_,_,rfl,.inr ⟨rfl,_,rfl,fun z hz=>(by cases hz)⟩,fun z hz=>(by cases hz),.inl ⟨rfl,_,rfl,fun z hz=>(by cases hz)⟩⟩,fun _ _ e=> .inl e,Nat.le_refl _,Nat.le_refl _⟩,hq⟩
  have hnid:=AG hrs conc hfr
  simp only[S2,FE,hnid,List.nil_append,kM,A8,oN,a8,a1,Option.bind_some]
  rw[show C.E.pcall g xsI ⟨s.heap,s.next,s.next⟩=some (vI,[]) from e1]
  rfl
 ·rename_i hno
  split at h
  case h_2=>exact h.elim
  rename_i v st' q hv
  unfold O9 at hv
  split at hv
  ·obtain ⟨vI,h',n',r,μ',k1,k2⟩:=aB4 (fr0:=fr0) (hint:=hint) (conc:=conc) (rs:=rs) hsr hf hv
   exact ⟨v,st',q,vI,h',n',r,μ',k1,k2,h⟩
  ·obtain ⟨vI,h',n',r,μ',k1,k2,k3,k4,k5,k6⟩:=YZ (fr0:=fr0) (conc:=conc) (rs:=rs) hsr hf hv
   exact ⟨v,st',q,vI,h',n',r,μ',k1,⟨k2,k3,k4,fun ν' _ j2=>k5.mono j2,k6.2.1,k6.2.2.1,k6.2.2.2⟩,h⟩
theorem RO (fr0:Fr) (p0:Nat) {F:Nat→Prop}:∀ (l:List qA) {qs:List M4} {rs:List F1} {fr:B8} {st:l6} {Q:B8→l6→Prop} {μ ν:Nat→Option Nat} {frI:Fr} {h:j5} {n:Nat},wpD C l qs fr st Q→
  SR C st ⟨h,n,p0⟩ μ F→FR (v6 C st ⟨h,n,p0⟩ μ F) fr frI→VW.le C.w0 (v6 C st ⟨h,n,p0⟩ μ F)→p0=C.p0→(∀ b,F b→C.w0.F b∨C.p0≤b)→K0 ν F rs qs→
  (∀ o b,μ o=some b→ν o=some b)→(∀ o o' b,ν o=some b→ν o'=some b→o=o')→(∀ o b,ν o=some b→o<st.next∧b<n)→
  ∃ frI' h' n' fr' st',rT C.E fr0 p0 l rs frI h n=some (frI',h',n')∧Rl C st' fr' ⟨h',n',p0⟩ frI'∧Q fr' st'
 | [],qs,rs,fr,st,Q,μ,ν,frI,h,n,hw,h1,h2,h3,h4,h5,h6,_,_,_=>⟨frI,h,n,fr,st,rfl,⟨μ,F,h1,h2,h3,h4,h5⟩,hw⟩
 |⟨⟨d,g,op⟩,conc,hint⟩::l,qs,rs,fr,st,Q,μ,ν,frI,h,n,hw,h1,h2,h3,h4,h5,h6,n1,n2,n3=>by
  have hrl:Rl C st fr ⟨h,n,p0⟩ frI:=⟨μ,F,h1,h2,h3,h4,h5⟩
  have run:(wpS C op hint conc qs (B3 (n8 ⟨d,g,op⟩) fr) st fun v st' r=>gJ qs r conc=true∧wpD C l (qs++ [r]) (r8 fr d v) st' Q)→wanted (p7 (n8 ⟨d,g,op⟩) frI) g=some true→
    ∃ frI' h' n' fr' st',rT C.E fr0 p0 (⟨⟨d,g,op⟩,conc,hint⟩::l) rs frI h n=some (frI',h',n')∧Rl C st' fr' ⟨h',n',p0⟩ frI'∧Q fr' st':=by
   intro hq hwt
   obtain ⟨v,st',r,vI,h',n',r',μ',e1,⟨q1,q2,q3,q4,q5,q6,q7⟩,hq1,hq2⟩:=bN1 (fr0:=fr0) h1 (h2.keep (n8 ⟨d,g,op⟩)) h6 hq
   let ν':Nat→Option Nat:=fun o=>match μ' o with|some b=>some b|none=>ν o
   have hq7:n≤n':=q7
   have m1:∀ o b,μ' o=some b→ν' o=some b:=fun o b e=>by simp only[ν',e]
   have m2:∀ o b,ν o=some b→ν' o=some b:=fun o b e=>by
    cases hm:μ' o with
    |none=>simp only[ν',hm];exact e
    |some b'=>
     simp only[ν',hm]
     rcases q5 o b' hm with e'|⟨e',_⟩
     ·rw[n1 o b' e'] at e;exact e
     ·have:=(n3 o b e).1;omega
   have m3:∀ o b,ν' o=some b→μ' o=some b∨(μ' o=none∧ν o=some b):=fun o b e=>by
    cases hm:μ' o with
    |none=>simp only[ν',hm] at e;exact .inr ⟨rfl,e⟩
    |some b'=>simp only[ν',hm] at e;exact .inl e
   have key:∀ o o' b,μ' o=some b→ν o'=some b→o=o':=fun o o' b e e'=>by
    rcases q5 o b e with k|⟨_,k⟩
    ·exact n2 o o' b (n1 o b k) e'
    ·have:=(n3 o' b e').2;exact absurd k (by show ¬ n≤b;omega)
   have m4:∀ o o' b,ν' o=some b→ν' o'=some b→o=o':=fun o o' b e e'=>by
    rcases m3 o b e with a|⟨_,a⟩<;>rcases m3 o' b e' with a'|⟨_,a'⟩
    ·exact q1.inj o o' b a a'
    ·exact key o o' b a a'
    ·exact (key o' o b a' a).symm
    ·exact n2 o o' b a a'
   have m5:∀ o b,ν' o=some b→o<st'.next∧b<n':=fun o b e=>by
    rcases m3 o b e with a|⟨_,a⟩
    ·obtain ⟨d1,d2,_⟩:=q1.dom o b a
     exact ⟨by omega,by omega⟩
    ·have:=n3 o b a;omega
   have hr':=q4 ν' (fun o b e=>m2 o b (n1 o b e)) m1
   have h6':=K0.mono (F:=F) m2 h6
   have hok:=K0.all m4 h6' hr' hq1
   obtain ⟨frI',h'',n'',fr',st'',k1,k2,k3⟩:=RO fr0 p0 l (rs:=rs++ [r']) (frI:=F5 frI d vI) hq2 q1 ((h2.mono q3).put q2 d) (h3.trans q3) h4 h5 (K0.snoc hr' h6') m1 m4 m5
   refine ⟨frI',h'',n'',fr',st'',?_,k2,k3⟩
   simp only[rT,hwt,Option.bind_some]
   rw[YR,e1]
   simp only[Option.bind_some]
   rw[if_pos hok]
   exact k1
  have skip:wpD C l (qs++ [⟨[],[],[],false,false⟩]) (r8 fr d (.tup [])) st Q→wanted (p7 (n8 ⟨d,g,op⟩) frI) g=some false→
    ∃ frI' h' n' fr' st',rT C.E fr0 p0 (⟨⟨d,g,op⟩,conc,hint⟩::l) rs frI h n=some (frI',h',n')∧Rl C st' fr' ⟨h',n',p0⟩ frI'∧Q fr' st':=by
   intro hq hwt
   obtain ⟨frI',h'',n'',fr',st'',k1,k2,k3⟩:=RO fr0 p0 l (rs:=rs++ [⟨.only [],.only [],.fix []⟩]) (frI:=F5 frI d (.tuple #[])) hq h1 (h2.put (by simp only[b7,d8];exact ⟨[],rfl,rfl⟩) d) h3 h4 h5 (K0.snoc (.mk3 (fun b hb=>(by cases hb)) (fun b hb=>(by cases hb)) (fun b hb=>(by cases hb))) h6) n1 n2 n3
   refine ⟨frI',h'',n'',fr',st'',?_,k2,k3⟩
   simp only[rT,hwt,Option.bind_some]
   exact k1
  simp only[wpD] at hw
  split at hw
  ·exact run hw rfl
  ·rename_i _ t want
   have ht:t ∈ n8 ⟨d,some (t,want),op⟩:=by simp[n8]
   split at hw
   ·rename_i b hb
    have hb':=(cD hrl hb).1 b rfl
    split at hw
    ·rename_i hbw
     exact run hw (by simp only[wanted];rw[G7 _ _ _ ht,hb'];simp[hbw])
    ·rename_i hbw
     have hbw':(b==want)=false:=by simpa using hbw
     exact skip hw (by simp only[wanted];rw[G7 _ _ _ ht,hb'];simp[hbw'])
   ·rename_i l' hb
    obtain ⟨l2,hb'⟩:=(cD hrl hb).2 l' rfl
    exact skip hw (by simp only[wanted];rw[G7 _ _ _ ht,hb'];rfl)
   ·exact hw.elim
def gD (C:D7) (l:List qA) (rs:List M4) (tail:List f8) (ks:List Nat) (K:List KF) (fr:B8) (st:l6) (P:A2):Prop:=wpD C l rs fr st fun fr st=>gO C tail ks K fr st P
def gDV (C:D7) (r:Option (V × l6 × M4)) (conc:List Nat) (d:Option Nat) (l:List qA) (rs:List M4) (tail:List f8) (ks:List Nat) (K:List KF) (fr:B8) (P:A2):Prop:=
 match r with|some (v,st',r)=>gJ rs r conc=true∧gD C l (rs++ [r]) tail ks K (r8 fr d v) st' P|none=>False
def gDG (C:D7) (v:Option V) (want:Bool) (r:Option (V × l6 × M4)) (conc:List Nat) (d:Option Nat) (l:List qA) (rs:List M4) (tail:List f8) (ks:List Nat) (K:List KF) (fr:B8) (st:l6) (P:A2):Prop:=
 match v with
 |some (.sc (.bool b))=>if b==want then gDV C r conc d l rs tail ks K fr P else gD C l (rs++ [⟨[],[],[],false,false⟩]) tail ks K (r8 fr d (.tup [])) st P
 |some (.tup _)=>gD C l (rs++ [⟨[],[],[],false,false⟩]) tail ks K (r8 fr d (.tup [])) st P
 |_=>False
variable {K:List KF} {fr:B8} {st:l6} {P:A2}
theorem r6 {pre:List qA} {tail:List f8} {ks:List Nat} (h:gD C pre [] tail ks K fr st P):gC C (.drawW pre tail ks) K fr st P:=by
 unfold gC
 simp only[HC]
 rintro frI s ⟨μ,F,h1,h2,h3,h4,h5⟩
 obtain ⟨frI',h',n',fr',st',e,g1,g2⟩:=RO frI s.prot pre (rs:= []) (ν:=μ) h h1 h2 h3 h4 h5 .nil (fun _ _ e=>e) h1.inj (fun o b e=>by obtain ⟨d1,d2,_⟩:=h1.dom o b e;exact ⟨by omega,by omega⟩)
 unfold gO at g2
 obtain ⟨frI2,s2,fr2,st2,e2,k1,k2⟩:=lU tail g2 g1
 refine ⟨.normal,p7 ks frI2,s2,?_,B3 ks fr2,st2,k1.keep ks,k2⟩
 simp only[z7,e,Option.bind_some]
 rw[e2]
 rfl
theorem aD8 (rs:List M4) (tail:List f8) (ks:List Nat):gD C [] rs tail ks K fr st P=gO C tail ks K fr st P:=(rfl)
def FV:I8→Bool
 | .callF _ _=>false
 |_=>true
theorem WF (o:I8) (ho:FV o=true) (hint:Option (List Nat)) (conc:List Nat) (rs:List M4) (f:B8) (Q:V→l6→M4→Prop):wpS C o hint conc rs f st Q=match O9 C.E.old f st o hint with|some (v,st',r)=>Q v st' r|none=>False:=by
 cases o<;>first|rfl|cases ho
theorem TD (d:Option Nat) (o:I8) (ho:FV o=true) (conc:List Nat) (hint:Option (List Nat)) (l:List qA) (rs:List M4) (tail:List f8) (ks:List Nat):gD C (⟨⟨d,none,o⟩,conc,hint⟩::l) rs tail ks K fr st P=gDV C (O9 C.E.old (B3 (l5 (p9 o)) fr) st o hint) conc d l rs tail ks K fr P:=by
 unfold gD gDV
 simp only[wpD,bL,WF o ho]
 rfl
theorem JO (d:Option Nat) (t:Nat) (want:Bool) (o:I8) (ho:FV o=true) (conc:List Nat) (hint:Option (List Nat)) (l:List qA) (rs:List M4) (tail:List f8) (ks:List Nat):
  gD C (⟨⟨d,some (t,want),o⟩,conc,hint⟩::l) rs tail ks K fr st P=gDG C (f6 fr t) want (O9 C.E.old (B3 (l5 (p9 o)++ [t]) fr) st o hint) conc d l rs tail ks K fr st P:=by
 unfold gD gDG gDV
 simp only[wpD,n8,WF o ho]
 rfl
theorem JN (v:V) (st':l6) (r:M4) (conc:List Nat) (d:Option Nat) (l:List qA) (rs:List M4) (tail:List f8) (ks:List Nat) (h:gJ rs r conc=true):gDV C (some (v,st',r)) conc d l rs tail ks K fr P=gD C l (rs++ [r]) tail ks K (r8 fr d v) st' P:=by
 simp only[gDV,h,true_and]
theorem TC (b:Bool) (r:Option (V × l6 × M4)) (conc:List Nat) (d:Option Nat) (l:List qA) (rs:List M4) (tail:List f8) (ks:List Nat):gDG C (some (.sc (.bool b))) b r conc d l rs tail ks K fr st P=gDV C r conc d l rs tail ks K fr P:=by simp[gDG]
theorem aD7 (r:Option (V × l6 × M4)) (conc:List Nat) (d:Option Nat) (l:List qA) (rs:List M4) (tail:List f8) (ks:List Nat):gDG C (some (.sc (.bool true))) false r conc d l rs tail ks K fr st P=gD C l (rs++ [⟨[],[],[],false,false⟩]) tail ks K (r8 fr d (.tup [])) st P:=(rfl)
theorem aD6 (r:Option (V × l6 × M4)) (conc:List Nat) (d:Option Nat) (l:List qA) (rs:List M4) (tail:List f8) (ks:List Nat):gDG C (some (.sc (.bool false))) true r conc d l rs tail ks K fr st P=gD C l (rs++ [⟨[],[],[],false,false⟩]) tail ks K (r8 fr d (.tup [])) st P:=(rfl)
theorem TB (a:List V) (want:Bool) (r:Option (V × l6 × M4)) (conc:List Nat) (d:Option Nat) (l:List qA) (rs:List M4) (tail:List f8) (ks:List Nat):gDG C (some (.tup a)) want r conc d l rs tail ks K fr st P=gD C l (rs++ [⟨[],[],[],false,false⟩]) tail ks K (r8 fr d (.tup [])) st P:=(rfl)
end
section
variable {old:Nat→Nat→Option Value} {f:B8} {st:l6}
theorem VM (k:Option Nat) (a:Operand) (h:Option (List Nat)):O9 old f st (.load k a) h=zM old st k (m8 f a):=(rfl)
theorem NR (a x:Operand) (h:Option (List Nat)):O9 old f st (.store 1 a x) h=EO st (m8 f a) (m8 f x):=(rfl)
theorem DA (n:Nat) (hn:Nat.beq n 1=false) (a x:Operand) (h:Option (List Nat)):O9 old f st (.store n a x) h=dE st n (m8 f a) (m8 f x):=by
 show (if Nat.beq n 1 then _ else _)=_
 rw[hn];rfl
theorem VL (e:Nat) (a x:Operand) (h:Option (List Nat)):O9 old f st (.copy e a x) h=aB5 st e (m8 f a) (m8 f x):=(rfl)
theorem VN (o:I8) (ho:QE o=true):O9 old f st o none=IP st (d7 old f st.own st.next o):=by
 cases o<;>first|rfl|cases ho
def dLd (st:l6) (v:Option V) (l:List Nat):Option (V × l6 × M4):=v.map fun v=>(v,st,⟨l,[],[],false,false⟩)
theorem IL (v:V) (l:List Nat):dLd st (some v) l=some (v,st,⟨l,[],[],false,false⟩):=(rfl)
theorem zN (k:Option Nat) (o j:Nat):zM old st k (some (.ptr o j))=dLd st (aZ old st.own k (some (.ptr o j))) [o]:=(rfl)
theorem IM (k:Option Nat) (l:List D) (j:Nat):zM old st k (some (.dp l j))=dLd st (aZ old st.own k (some (.dp l j))) []:=(rfl)
theorem IN (k:Option Nat) (x:Value):zM old st k (some (.sc x))=dLd st (aZ old st.own k (some (.sc x))) []:=(rfl)
theorem zS (o k:Nat) (y:Value):EO st (some (.ptr o k)) (some (.sc y))=mK st o k y (f6 st.own o):=(rfl)
theorem zR (o k t e:Nat) (g:Bool) (l:List D) (y:Value) (hro:st.ro≤o) (hk:k<l.length):mK st o k y (some (.row t e g false l))=some (.tup [],⟨D6 st.own o (.row t e g false (l.set k (.sc y))),st.next,st.ro⟩,⟨[o],[o],[],false,false⟩):=by
 simp only[mK]
 rw[if_pos (by simp only[Bool.and_eq_true,Nat.ble_eq,Nat.blt_eq];exact ⟨hro,hk⟩)]
theorem zQ (o k t e:Nat) (l:List D) (y:Value) (hro:st.ro≤o) (hk:k<l.length):mK st o k y (some (.gro t e false l))=some (.tup [],⟨D6 st.own o (.gro t e false (l.set k (.sc y))),st.next,st.ro⟩,⟨[o],[o],[],false,false⟩):=by
 simp only[mK]
 rw[if_pos (by simp only[Bool.and_eq_true,Nat.ble_eq,Nat.blt_eq];exact ⟨hro,hk⟩)]
theorem zP (o k t e:Nat) (l:List V) (y:Value) (hro:st.ro≤o) (hk:k<l.length):mK st o k y (some (.box t e l))=some (.tup [],⟨D6 st.own o (.box t e (l.set k (.sc y))),st.next,st.ro⟩,⟨[o],[o],[],false,false⟩):=by
 simp only[mK]
 rw[if_pos (by simp only[Bool.and_eq_true,Nat.ble_eq,Nat.blt_eq];exact ⟨hro,hk⟩)]
theorem tR (v:V):IP st (some (v,none,[]))=some (v,st,⟨[],[],[],false,false⟩):=(rfl)
theorem zO (v:V) (ob:Obj):IP st (some (v,some ob,[]))=some (v,⟨(st.next,ob)::st.own,st.next+1,st.ro⟩,⟨[],[],[st.next],false,false⟩):=(rfl)
end
section
variable {old:Nat→Nat→Option Value} {rounds:Nat} {fns:FuncId→Option n9} {prims:FuncId→List Value→St→Option (Value × List r7)} {n:Nat} {f:FuncId} {xs:List V} {af:n9}
end
theorem sO {α:Type} {r:List (Nat × α)} {i:Nat} {v:α} (h:(f6 r i).isSome=true):f6 (D6 r i v) i=some v:=by
 obtain ⟨u,hu⟩:=Option.isSome_iff_exists.1 h
 exact DX hu
theorem OH:L6 []= .tup []:=(rfl)
section
variable {C:D7} {st:l6}
theorem CC {a a' b:V} (h:Z6 C st a a'):Z6 C st (.tup [a,b]) (.tup [a',b]):=by
 intro s μ F u h1 hv
 simp only[b7,d8] at hv ⊢
 obtain ⟨vs,rfl,v1,_,rfl,q1,v2,_,rfl,q2,rfl⟩:=hv
 exact ⟨_,rfl,v1,_,rfl,h s μ F v1 h1 q1,v2,_,rfl,q2,rfl⟩
end
theorem VV0:type_of% (And.intro @aE1 (And.intro @aE2 (And.intro @qT (And.intro @uM (And.intro @eJ (And.intro @kB (And.intro @mO (And.intro @SY (And.intro @aD3 (And.intro @SW (And.intro @aD4 (And.intro @JL (And.intro @aD2 (And.intro @SU (And.intro @FC (And.intro @uL (And.intro @SX (And.intro @SV (And.intro @aE3 (And.intro @JQ (And.intro @aD8 (And.intro @TD (And.intro @JO (And.intro @JN (And.intro @TC (And.intro @aD7 (And.intro @aD6 (And.intro @TB (And.intro @VM (And.intro @NR (And.intro @VN (And.intro @zN (And.intro @IM (And.intro @IN (And.intro @IL (And.intro @zS (And.intro @zR (And.intro @zQ (And.intro @zP (@tR)))))))))))))))))))))))))))))))))))))))):=
 And.intro @aE1 (And.intro @aE2 (And.intro @qT (And.intro @uM (And.intro @eJ (And.intro @kB (And.intro @mO (And.intro @SY (And.intro @aD3 (And.intro @SW (And.intro @aD4 (And.intro @JL (And.intro @aD2 (And.intro @SU (And.intro @FC (And.intro @uL (And.intro @SX (And.intro @SV (And.intro @aE3 (And.intro @JQ (And.intro @aD8 (And.intro @TD (And.intro @JO (And.intro @JN (And.intro @TC (And.intro @aD7 (And.intro @aD6 (And.intro @TB (And.intro @VM (And.intro @NR (And.intro @VN (And.intro @zN (And.intro @IM (And.intro @IN (And.intro @IL (And.intro @zS (And.intro @zR (And.intro @zQ (And.intro @zP (@tR)))))))))))))))))))))))))))))))))))))))
theorem VV1:type_of% (And.intro @zO (And.intro @JS (And.intro @JR (And.intro @AI (And.intro @JP (And.intro @TE (And.intro @qY (And.intro @LQ (And.intro @zC (And.intro @aJ4 (And.intro @IH (And.intro @II (And.intro @DM (And.intro @OD (And.intro @VL (And.intro @CW (And.intro @sT (And.intro @TF (And.intro @JT (And.intro @aE0 (And.intro @bC4 (And.intro @bC3 (And.intro @aD9 (And.intro @TP (And.intro @aE7 (And.intro @TN (And.intro @TO (And.intro @TM (And.intro @uK (And.intro @SZ (And.intro @TA (And.intro @JM (And.intro @aE6 (And.intro @TL (And.intro @KA (And.intro @KB (And.intro @KC (And.intro @JZ (And.intro @TK (@JU)))))))))))))))))))))))))))))))))))))))):=
 And.intro @zO (And.intro @JS (And.intro @JR (And.intro @AI (And.intro @JP (And.intro @TE (And.intro @qY (And.intro @LQ (And.intro @zC (And.intro @aJ4 (And.intro @IH (And.intro @II (And.intro @DM (And.intro @OD (And.intro @VL (And.intro @CW (And.intro @sT (And.intro @TF (And.intro @JT (And.intro @aE0 (And.intro @bC4 (And.intro @bC3 (And.intro @aD9 (And.intro @TP (And.intro @aE7 (And.intro @TN (And.intro @TO (And.intro @TM (And.intro @uK (And.intro @SZ (And.intro @TA (And.intro @JM (And.intro @aE6 (And.intro @TL (And.intro @KA (And.intro @KB (And.intro @KC (And.intro @JZ (And.intro @TK (@JU)))))))))))))))))))))))))))))))))))))))
theorem VV2:type_of% (And.intro @JV (And.intro @JX (And.intro @TJ (And.intro @JY (And.intro @aE5 (And.intro @aE4 (And.intro @TI (And.intro @mX (And.intro @uX (And.intro @BD (And.intro @BV (And.intro @nP (And.intro @wM (And.intro @yA (And.intro @yB (And.intro @rR (And.intro @OI (And.intro @OJ (And.intro @MO (And.intro @bE3 (And.intro @LF (And.intro @LG (And.intro @UN (And.intro @UM (And.intro @UL (And.intro @HW (And.intro @HV (And.intro @zG (And.intro @DF (And.intro @DG (And.intro @DE (And.intro @bD6 (And.intro @MJ (And.intro @MK (And.intro @BW (And.intro @MI (And.intro @xX (And.intro @DJ (And.intro @vP (@vR)))))))))))))))))))))))))))))))))))))))):=
 And.intro @JV (And.intro @JX (And.intro @TJ (And.intro @JY (And.intro @aE5 (And.intro @aE4 (And.intro @TI (And.intro @mX (And.intro @uX (And.intro @BD (And.intro @BV (And.intro @nP (And.intro @wM (And.intro @yA (And.intro @yB (And.intro @rR (And.intro @OI (And.intro @OJ (And.intro @MO (And.intro @bE3 (And.intro @LF (And.intro @LG (And.intro @UN (And.intro @UM (And.intro @UL (And.intro @HW (And.intro @HV (And.intro @zG (And.intro @DF (And.intro @DG (And.intro @DE (And.intro @bD6 (And.intro @MJ (And.intro @MK (And.intro @BW (And.intro @MI (And.intro @xX (And.intro @DJ (And.intro @vP (@vR)))))))))))))))))))))))))))))))))))))))
theorem VV3:type_of% (And.intro @vQ (And.intro @sZ (And.intro @tA (And.intro @oM (And.intro @bC1 (And.intro @bC2 (And.intro @RX (And.intro @tV (And.intro @aO1 (And.intro @zL (And.intro @mZ (And.intro @AE (And.intro @JE (And.intro @uA (And.intro @uB (And.intro @AO (And.intro @KI (And.intro @KJ (And.intro @AN (And.intro @JC (And.intro @KW (And.intro @KS (And.intro @AY (And.intro @KR (And.intro @AZ (And.intro @AX (And.intro @BA (And.intro @IY (And.intro @wU (And.intro @aJ8 (And.intro @UY (And.intro @LP (And.intro @aJ3 (And.intro @LR (And.intro @LX (And.intro @UV (And.intro @BM (And.intro @aJ2 (And.intro @aJ5 (@LV)))))))))))))))))))))))))))))))))))))))):=
 And.intro @vQ (And.intro @sZ (And.intro @tA (And.intro @oM (And.intro @bC1 (And.intro @bC2 (And.intro @RX (And.intro @tV (And.intro @aO1 (And.intro @zL (And.intro @mZ (And.intro @AE (And.intro @JE (And.intro @uA (And.intro @uB (And.intro @AO (And.intro @KI (And.intro @KJ (And.intro @AN (And.intro @JC (And.intro @KW (And.intro @KS (And.intro @AY (And.intro @KR (And.intro @AZ (And.intro @AX (And.intro @BA (And.intro @IY (And.intro @wU (And.intro @aJ8 (And.intro @UY (And.intro @LP (And.intro @aJ3 (And.intro @LR (And.intro @LX (And.intro @UV (And.intro @BM (And.intro @aJ2 (And.intro @aJ5 (@LV)))))))))))))))))))))))))))))))))))))))
theorem VV4:type_of% (And.intro @bD5 (And.intro @LS (And.intro @LT (And.intro @aJ1 (And.intro @wE (And.intro @VA (And.intro @aJ9 (And.intro @UZ (And.intro @UQ (And.intro @UR (And.intro @UT (And.intro @US (And.intro @BL (And.intro @UU (And.intro @aJ6 (And.intro @UW (And.intro @UX (And.intro @aJ7 (And.intro @bD4 (And.intro @aJ0 (And.intro @UP (And.intro @LU (And.intro @qZ (And.intro @vJ (And.intro @vK (And.intro @LY (And.intro @wR (And.intro @CE (And.intro @MA (And.intro @xG (And.intro @xJ (And.intro @wD (And.intro @mM (And.intro @mN (And.intro @LW (And.intro @qN (And.intro @kX (And.intro @dH (And.intro @bR (@oE)))))))))))))))))))))))))))))))))))))))):=
 And.intro @bD5 (And.intro @LS (And.intro @LT (And.intro @aJ1 (And.intro @wE (And.intro @VA (And.intro @aJ9 (And.intro @UZ (And.intro @UQ (And.intro @UR (And.intro @UT (And.intro @US (And.intro @BL (And.intro @UU (And.intro @aJ6 (And.intro @UW (And.intro @UX (And.intro @aJ7 (And.intro @bD4 (And.intro @aJ0 (And.intro @UP (And.intro @LU (And.intro @qZ (And.intro @vJ (And.intro @vK (And.intro @LY (And.intro @wR (And.intro @CE (And.intro @MA (And.intro @xG (And.intro @xJ (And.intro @wD (And.intro @mM (And.intro @mN (And.intro @LW (And.intro @qN (And.intro @kX (And.intro @dH (And.intro @bR (@oE)))))))))))))))))))))))))))))))))))))))
theorem VV5:type_of% (And.intro @fG (And.intro @dG (And.intro @qL (And.intro @aG9 (And.intro @aG8 (And.intro @LZ (And.intro @UO (And.intro @VB (And.intro @OQ (And.intro @aQ6 (And.intro @WH (And.intro @WI (And.intro @xB (And.intro @MY (And.intro @MZ (And.intro @wZ (And.intro @wY (And.intro @CN (And.intro @rM (And.intro @NP (And.intro @HO (And.intro @NQ (And.intro @CX (And.intro @CY (And.intro @sS (And.intro @qD (And.intro @qC (And.intro @mD (And.intro @pS (And.intro @MW (And.intro @MX (And.intro @CL (And.intro @CK (And.intro @CM (And.intro @CJ (And.intro @CI (And.intro @qE (And.intro @MV (And.intro @VG (@aN4)))))))))))))))))))))))))))))))))))))))):=
 And.intro @fG (And.intro @dG (And.intro @qL (And.intro @aG9 (And.intro @aG8 (And.intro @LZ (And.intro @UO (And.intro @VB (And.intro @OQ (And.intro @aQ6 (And.intro @WH (And.intro @WI (And.intro @xB (And.intro @MY (And.intro @MZ (And.intro @wZ (And.intro @wY (And.intro @CN (And.intro @rM (And.intro @NP (And.intro @HO (And.intro @NQ (And.intro @CX (And.intro @CY (And.intro @sS (And.intro @qD (And.intro @qC (And.intro @mD (And.intro @pS (And.intro @MW (And.intro @MX (And.intro @CL (And.intro @CK (And.intro @CM (And.intro @CJ (And.intro @CI (And.intro @qE (And.intro @MV (And.intro @VG (@aN4)))))))))))))))))))))))))))))))))))))))
theorem VV6:type_of% (And.intro @aN5 (And.intro @aN6 (And.intro @NJ (And.intro @NH (And.intro @SS (And.intro @aC9 (And.intro @aD1 (And.intro @aD0 (And.intro @k8 (And.intro @dN (And.intro @sB (And.intro @DL (And.intro @VV (And.intro @VU (And.intro @TU (And.intro @TV (And.intro @TX (And.intro @TY (And.intro @BI (And.intro @HJ (And.intro @j7 (And.intro @HP (And.intro @sW (And.intro @sV (And.intro @sU (And.intro @oG (And.intro @sO (And.intro @OH (And.intro @HQ (And.intro @T3 (And.intro @HH (And.intro @sN (And.intro @zA (And.intro @qB (And.intro @uF (And.intro @fO (And.intro @JK (And.intro @JJ (And.intro @JI (@zX)))))))))))))))))))))))))))))))))))))))):=
 And.intro @aN5 (And.intro @aN6 (And.intro @NJ (And.intro @NH (And.intro @SS (And.intro @aC9 (And.intro @aD1 (And.intro @aD0 (And.intro @k8 (And.intro @dN (And.intro @sB (And.intro @DL (And.intro @VV (And.intro @VU (And.intro @TU (And.intro @TV (And.intro @TX (And.intro @TY (And.intro @BI (And.intro @HJ (And.intro @j7 (And.intro @HP (And.intro @sW (And.intro @sV (And.intro @sU (And.intro @oG (And.intro @sO (And.intro @OH (And.intro @HQ (And.intro @T3 (And.intro @HH (And.intro @sN (And.intro @zA (And.intro @qB (And.intro @uF (And.intro @fO (And.intro @JK (And.intro @JJ (And.intro @JI (@zX)))))))))))))))))))))))))))))))))))))))
theorem VV7:type_of% (And.intro @qK (And.intro @VT (And.intro @VP (And.intro @NS (And.intro @VQ (And.intro @NY (And.intro @NX (And.intro @NV (And.intro @NU (And.intro @xU (And.intro @NT (And.intro @NZ (And.intro @tK (And.intro @DD (And.intro @AP (And.intro @DB (And.intro @DC (And.intro @nX (And.intro @qJ (And.intro @kL (And.intro @OB (And.intro @DI (And.intro @xW (And.intro @DH (And.intro @OA (And.intro @Z7 (And.intro @cB (And.intro @bB6 (And.intro @bB5 (And.intro @bB4 (And.intro @bB3 (And.intro @bB2 (And.intro @bB8 (And.intro @bB1 (And.intro @bB9 (And.intro @bB7 (And.intro @zD (And.intro @zE (And.intro @ED (@ZT)))))))))))))))))))))))))))))))))))))))):=
 And.intro @qK (And.intro @VT (And.intro @VP (And.intro @NS (And.intro @VQ (And.intro @NY (And.intro @NX (And.intro @NV (And.intro @NU (And.intro @xU (And.intro @NT (And.intro @NZ (And.intro @tK (And.intro @DD (And.intro @AP (And.intro @DB (And.intro @DC (And.intro @nX (And.intro @qJ (And.intro @kL (And.intro @OB (And.intro @DI (And.intro @xW (And.intro @DH (And.intro @OA (And.intro @Z7 (And.intro @cB (And.intro @bB6 (And.intro @bB5 (And.intro @bB4 (And.intro @bB3 (And.intro @bB2 (And.intro @bB8 (And.intro @bB1 (And.intro @bB9 (And.intro @bB7 (And.intro @zD (And.intro @zE (And.intro @ED (@ZT)))))))))))))))))))))))))))))))))))))))
theorem VV8:type_of% (And.intro @aQ5 (And.intro @bE1 (And.intro @bE0 (And.intro @rC (And.intro @BC (And.intro @BB (And.intro @vA (@uZ)))))))):=
 And.intro @aQ5 (And.intro @bE1 (And.intro @bE0 (And.intro @rC (And.intro @BC (And.intro @BB (And.intro @vA (@uZ)))))))
theorem VV9:type_of% (And.intro @Bool.false_eq_true (And.intro @Bool.not_true (And.intro @Bool.not_false (And.intro @Int.toNat_natCast (And.intro @Nat.zero_add (And.intro @Nat.add_zero (And.intro @Nat.mul_one (And.intro @Int.add_sub_cancel (And.intro @Bool.and_true (And.intro @Bool.true_and (And.intro @Bool.and_self (And.intro @true_or (And.intro @not_true_eq_false (And.intro @not_false_eq_true (And.intro @decide_true (And.intro @decide_false (And.intro @Option.map_some.{0,0} (And.intro @Option.bind_some.{0,0} (And.intro @List.cons_append.{0} (And.intro @List.nil_append.{0} (And.intro @List.map_cons.{0,0} (And.intro @List.map_nil.{0,0} (And.intro @List.append_nil.{0} (And.intro @Option.toList_some.{0} (And.intro @Option.toList_none.{0} (And.intro @if_true.{1} (And.intro @if_false.{1} (And.intro @List.length_cons.{0} (And.intro @List.length_nil.{0} (And.intro @List.length_singleton.{0} (And.intro @eq_self.{1} (And.intro @List.drop_zero.{0} (And.intro @List.drop_succ_cons.{0} (And.intro @Option.some.injEq.{0} (And.intro @Prod.mk.injEq.{0,0} (And.intro @List.set_cons_zero.{0} (@List.set_cons_succ.{0}))))))))))))))))))))))))))))))))))))):=
 And.intro @Bool.false_eq_true (And.intro @Bool.not_true (And.intro @Bool.not_false (And.intro @Int.toNat_natCast (And.intro @Nat.zero_add (And.intro @Nat.add_zero (And.intro @Nat.mul_one (And.intro @Int.add_sub_cancel (And.intro @Bool.and_true (And.intro @Bool.true_and (And.intro @Bool.and_self (And.intro @true_or (And.intro @not_true_eq_false (And.intro @not_false_eq_true (And.intro @decide_true (And.intro @decide_false (And.intro @Option.map_some.{0,0} (And.intro @Option.bind_some.{0,0} (And.intro @List.cons_append.{0} (And.intro @List.nil_append.{0} (And.intro @List.map_cons.{0,0} (And.intro @List.map_nil.{0,0} (And.intro @List.append_nil.{0} (And.intro @Option.toList_some.{0} (And.intro @Option.toList_none.{0} (And.intro @if_true.{1} (And.intro @if_false.{1} (And.intro @List.length_cons.{0} (And.intro @List.length_nil.{0} (And.intro @List.length_singleton.{0} (And.intro @eq_self.{1} (And.intro @List.drop_zero.{0} (And.intro @List.drop_succ_cons.{0} (And.intro @Option.some.injEq.{0} (And.intro @Prod.mk.injEq.{0,0} (And.intro @List.set_cons_zero.{0} (@List.set_cons_succ.{0}))))))))))))))))))))))))))))))))))))
theorem a7:type_of% (And.intro (@List.length_map.{0,0}) (And.intro (@List.length_set.{0}) (And.intro (@List.length_replicate.{0}) (And.intro (@List.length_cons.{0}) (And.intro (@List.length_nil.{0}) (@List.length_append.{0})))))):=
 And.intro (@List.length_map.{0,0}) (And.intro (@List.length_set.{0}) (And.intro (@List.length_replicate.{0}) (And.intro (@List.length_cons.{0}) (And.intro (@List.length_nil.{0}) (@List.length_append.{0})))))
theorem WA:type_of% (And.intro VV0 (And.intro VV1 (And.intro VV2 (And.intro VV3 (And.intro VV4 (And.intro VV5 (And.intro VV6 (And.intro VV7 (And.intro VV8 (And.intro VV9 (And.intro @UD.eq_1 (And.intro @aX.eq_1 (And.intro @aX.eq_2 (And.intro @ZJ.eq_1 (And.intro @yH.eq_1 (And.intro @R1.eq_1 (@R1.eq_2))))))))))))))))):=
 And.intro VV0 (And.intro VV1 (And.intro VV2 (And.intro VV3 (And.intro VV4 (And.intro VV5 (And.intro VV6 (And.intro VV7 (And.intro VV8 (And.intro VV9 (And.intro @UD.eq_1 (And.intro @aX.eq_1 (And.intro @aX.eq_2 (And.intro @ZJ.eq_1 (And.intro @yH.eq_1 (And.intro @R1.eq_1 (@R1.eq_2))))))))))))))))
end Go.Itp
namespace Go.Itp
open Go.RowKit (Below)
set_option linter.unusedVariables false
def SM:Value→Bool
 | .string _=>true
 | .int _ _=>true
 | .bool _=>true
 |_=>false
def fnP (f0:FuncId) (F:List Value→Option Value) (f:FuncId) (xs:List Value) (_:St):Option (Value × List r7):=
 if Nat.beq f f0 then (F xs).map fun v=>(v,[]) else none
theorem VI {μ:Mu}:∀ {v:Value},SM v=true→tr μ v=some v
 | .string _,_=>by simp[tr]
 | .int _ _,_=>by simp[tr]
 | .bool _,_=>by simp[tr]
theorem NL {μ:Mu}:∀ {xs:List Value},xs.all SM=true→B0 μ xs=some xs
 | [],_=>by simp[B0]
 |x::xs,h=>by
  simp only[List.all_cons,Bool.and_eq_true] at h
  simp[B0,VI h.1,NL h.2]
theorem PU {P:Program} {f0:FuncId} {F:List Value→Option Value} {w0:World} (hen:DR P f0) (hx:∀ xs v,F xs=some v→xs.all SM=true∧SM v=true)
  (hc:∀ xs v,F xs=some v→∀ w,Below w0.heap.size w0 w→Calls P f0 xs.toArray w fun e w'=>e= .returned v∧Below w.heap.size w w'):O6 P (fnP f0 F) w0:=by
 intro f xs s v bs h G μ w cs hG hr hx'
 unfold fnP at h
 split at h
 case isFalse=>cases h
 rename_i hf
 have:=f5.1 hf
 subst this
 simp only[Option.map_eq_some_iff,Prod.mk.injEq] at h
 obtain ⟨v',hv,rfl,rfl⟩:=h
 obtain ⟨h1,h2⟩:=hx xs _ hv
 rw[NL h1] at hx'
 cases hx'
 exact bG hen hr (hc xs _ hv w (by rw[← hG];exact hr.b0)) (VI h2)
theorem bG7 {old:Nat→Nat→Option Value} {rounds:Nat} {fns:FuncId→Option n9} {prims:FuncId→List Value→St→Option (Value × List r7)} {n:Nat} {f0:FuncId} {F:List Value→Option Value} {st:l6} {ys:List Value} {v:Value} (hF:F ys=some v) (hv:A9 v=true) (hp:∀ xs s r,fnP f0 F f0 xs s=some r→prims f0 xs s=some r):
  H9 (D5 old rounds fns prims (n+1)) f0 st (ys.map V.sc) (.sc v):=
 aI7 (fun s=>hp _ _ _ (by unfold fnP;rw[if_pos (f5.2 rfl),hF];rfl)) hv
def IQ (st:l6) (n o k:Nat) (ys:List V):Option Obj→Option (V × l6 × M4)
 |some (.box t e l)=>if Nat.ble st.ro o && Nat.beq ys.length n && aX5 ys then (B9 l k ys).map fun l=>(.tup [],⟨D6 st.own o (.box t e l),st.next,st.ro⟩,⟨[o],[o],[],false,false⟩) else none
 |_=>none
theorem kV (st:l6) (n o k:Nat) (ys:List V):dE st n (some (.ptr o k)) (some (.agg ys))=IQ st n o k ys (f6 st.own o):=by
 simp only[dE]
 cases f6 st.own o with
 |none=>rfl
 |some ob=>cases ob<;>rfl
theorem aT3 (st:l6) (o t e:Nat) (w0 w1 w2 w3:V) (a b c d:Value) (hro:st.ro≤o):IQ st 4 o 0 [.sc a,.sc b,.sc c,.sc d] (some (.box t e [w0,w1,w2,w3]))=some (.tup [],⟨D6 st.own o (.box t e [.sc a,.sc b,.sc c,.sc d]),st.next,st.ro⟩,⟨[o],[o],[],false,false⟩):=by
 simp only[IQ]
 rw[if_pos (by simp only[Bool.and_eq_true,Nat.ble_eq];exact ⟨⟨hro,rfl⟩,rfl⟩)]
 rfl
theorem YY {old:Nat→Nat→Option Value} {f:B8} {st:l6} (a x:Operand) (h:Option (List Nat)):O9 old f st (.store 4 a x) h=dE st 4 (m8 f a) (m8 f x):=DA 4 rfl a x h
theorem SJ (st:l6) (o t e:Nat) (w0 w1:V) (a:Value) (s n:Nat) (l:List D) (hro:st.ro≤o):IQ st 2 o 0 [.sc a,.sl s n l] (some (.box t e [w0,w1]))=some (.tup [],⟨D6 st.own o (.box t e [.sc a,.sl s n l]),st.next,st.ro⟩,⟨[o],[o],[],false,false⟩):=by
 simp only[IQ]
 rw[if_pos (by simp only[Bool.and_eq_true,Nat.ble_eq];exact ⟨⟨hro,rfl⟩,rfl⟩)]
 rfl
theorem CZ {old:Nat→Nat→Option Value} {f:B8} {st:l6} (a x:Operand) (h:Option (List Nat)):O9 old f st (.store 2 a x) h=dE st 2 (m8 f a) (m8 f x):=DA 2 rfl a x h
def KH:List Value→Option Value
 | [.string s,.string t]=>if s.size<4294967281 then some (.int .i64 (Lib.index s.data.toList t.data.toList)) else none
 |_=>none
def wI:List Value→Option Value
 | [.string s,.string t,.string u,.int .i64 n]=>if s.size<4294967281∧1≤t.size∧s.size+Lib.countB s t*u.size≤140737488355328 then some (.string ⟨(Lib.replace s.data.toList t.data.toList u.data.toList n).toArray⟩) else none
 |_=>none
def IJ:List Value→Option Value
 | [.string s,.string t]=>if s.size<4294967281∧1≤t.size then some (.int .i64 (Lib.countB s t)) else none
 |_=>none
end Go.Itp
namespace Go.Itp
open Go.ChangeShapes Go.WideShapes Go.ChangeAt Go.RowKit
set_option linter.unusedVariables false

end Go.Itp
namespace Go.Itp
set_option linter.unusedVariables false
set_option linter.constructorNameAsVariable false
section
variable {C:D7} {st:l6} {fr:B8}
theorem wP {s n:Nat} {l:List D} (h:s ≠ 1∨n ≠ 0):Z6 C st (.sl s n l) (.sl 3 n l):=by
 intro s' μ F u h1 hv
 simp only[b7,w9] at hv ⊢
 rcases hv with ⟨a,c,rfl,i,k,r,q⟩|⟨h2,rfl,rfl,rfl|⟨h3,_⟩⟩
 ·exact .inl ⟨a,c,rfl,i,k,r,fun h=>by cases h⟩
 ·exact .inr ⟨by omega,rfl,rfl,.inl rfl⟩
 ·rcases h with h|h
  ·exact absurd h3 h
  ·exact absurd rfl h
theorem pO:Z6 C st (.sc (.slice none 0 0)) (.sl 3 0 []):=by
 intro s μ F u h1 hv
 rw[hv.scv]
 simp only[b7,w9]
 refine .inr ⟨by omega,?_,?_,.inl ?_⟩<;>trivial
theorem OL {v:V} {x:Value} {s n:Nat} {l:List D} (hs:y5 st.own v=some (.sl s n l)) (hrow:C8 st.ro st.own (eI v)=true) (hk:s ≠ 1∨n ≠ 0) (h0:C.w0.nx=0) (hro:st.ro=0):Q8 C [(0,.tup [v,.sc x])] st [(0,.tup [.sl 3 n l,.sc x])] ⟨[],0,0⟩:=by
 have e1:eI (.tup [v,.sc x])=eI v:=by simp[eI,aD]
 have e2:y5 st.own (.tup [v,.sc x])=some (.tup [.sl s n l,.sc x]):=by simp[y5,L2,hs]
 refine (jS (t:=0) (v:= .tup [v,.sc x]) rfl e2 (by rw[e1];exact hrow)).trans ?_
 refine (Q6 (t:=0) (v:= .tup [.sl s n l,.sc x]) (v':= .tup [.sl 3 n l,.sc x]) rfl (CC (wP hk))).trans ?_
 exact s7 [] 0 h0 hro rfl rfl rfl
theorem C3 {x:Value} (h0:C.w0.nx=0) (hro:st.ro=0):Q8 C [(0,.tup [.sc (.slice none 0 0),.sc x])] st [(0,.tup [.sl 3 0 [],.sc x])] ⟨[],0,0⟩:=
 (Q6 (t:=0) (v:= .tup [.sc (.slice none 0 0),.sc x]) (v':= .tup [.sl 3 0 [],.sc x]) rfl (CC pO)).trans (s7 [] 0 h0 hro rfl rfl rfl)
theorem Q0 {n:Nat} {l:List D} {x:Value}:eD [] (.tup [.sl 3 n l,.sc x]):=jH (by simp only[Cl,OS,and_true];rfl)
end
section
variable {C:D7} {st:l6} {fr:B8}
theorem CD {a a' b b' c:V} (h:Z6 C st a a') (k:Z6 C st b b'):Z6 C st (.tup [a,b,c]) (.tup [a',b',c]):=by
 intro s μ F u h1 hv
 simp only[b7,d8] at hv ⊢
 obtain ⟨vs,rfl,v1,_,rfl,q1,v2,_,rfl,q2,v3,_,rfl,q3,rfl⟩:=hv
 exact ⟨_,rfl,v1,_,rfl,h s μ F v1 h1 q1,v2,_,rfl,k s μ F v2 h1 q2,v3,_,rfl,q3,rfl⟩
end
section
variable {old:Nat→Nat→Option Value} {rounds:Nat} {fns:FuncId→Option n9} {prims:FuncId→List Value→St→Option (Value × List r7)} {n:Nat} {f:FuncId} {C:D7} {st:l6}
end
section
variable {C:D7} {st:l6}
end
section
variable {old:Nat→Nat→Option Value} {rounds:Nat} {fns:FuncId→Option n9} {prims:FuncId→List Value→St→Option (Value × List r7)} {n:Nat} {f:FuncId} {xs:List V} {v:V} {st st1:l6} {af:n9} {C:D7}
end
def bD (b:UInt8):D:= .sc (.int .u8 b.toNat)
theorem tS:∀ (l:List UInt8),y8 (l.map bD)=some l
 | []=>rfl
 |b::r=>by
  have:=tS r
  rw[List.map_cons]
  show (y8 (r.map bD)).map (UInt8.ofNat ((b.toNat:Int)).toNat::·)=some (b::r)
  rw[this]
  simp
def iD (x:Int):D:= .sc (.int .i64 x)
def RdV (st:l6) (v:V) (l:List Int):Prop:=(∃ s,v= .sl s l.length (l.map iD))∨(∃ s o t z,v= .gr s o l.length∧f6 st.own o=some (.gro t 1 z (l.map iD)))∨(∃ o c t g z,v= .ref o 0 l.length c∧f6 st.own o=some (.row t 1 g z (l.map iD)))∨(v= .sc (.slice none 0 0)∧l= [])
structure Rdv (H:D2) (v:V) (l:List Int) (p:Nat→V):Prop where
 len:mW false v=some (.sc (.int .i64 l.length))
 idx:∀ i:Int,0≤i→i<l.length→fW 1 v (.sc (.int .i64 i))=some (p i.toNat)
 ld:∀ (old:Nat→Nat→Option Value) (k:Nat),k<l.length→aZ old H none (some (p k))=some (.sc (.int .i64 l[k]!))
theorem RdV.sl (st:l6) (s:Nat) (l:List Int):RdV st (.sl s l.length (l.map iD)) l:= .inl ⟨s,rfl⟩
theorem RdV.gr {st:l6} {s o t:Nat} {z:Bool} {l:List Int} (h:f6 st.own o=some (.gro t 1 z (l.map iD))):RdV st (.gr s o l.length) l:= .inr (.inl ⟨s,o,t,z,rfl,h⟩)
theorem RdV.ref {st:l6} {o c t:Nat} {g z:Bool} {l:List Int} (h:f6 st.own o=some (.row t 1 g z (l.map iD))):RdV st (.ref o 0 l.length c) l:= .inr (.inr (.inl ⟨o,c,t,g,z,rfl,h⟩))
set_option maxRecDepth 100000
set_option linter.unusedSimpArgs false
section
variable {old:Nat→Nat→Option Value} {rounds:Nat} {fns:FuncId→Option n9} {prims:FuncId→List Value→St→Option (Value × List r7)} {n:Nat} {f:FuncId} {C:D7} {st:l6}
end
theorem aS2 {H:D2} {o t:Nat} {g z:Bool} {L:List UInt8} (h:f6 H o=some (.row t 1 g z (L.map bD))) (c:Nat):ZR H (.ref o 0 L.length c)=some (.sc (.string ⟨L.toArray⟩)):=by
 have e:((L.map bD).drop 0).take (L.length*1)=L.map bD:=by rw[List.drop_zero,Nat.mul_one,List.take_of_length_le (by simp)]
 simp only[ZR,okV,S7,Option.bind_some,if_true,H5,h,List.length_map,Nat.zero_add,Nat.mul_one,Nat.le_refl]
 rw[Nat.mul_one] at e
 rw[e]
 simp[tS]
theorem bT7 (k:Nat) (h:k<256):bD (UInt8.ofNat k)= .sc (.int .u8 k):=by
 unfold bD
 rw[UInt8.toNat_ofNat_of_lt' h]
theorem zH (l m:List UInt8):(⟨l.toArray⟩:ByteArray)++⟨m.toArray⟩=⟨(l++m).toArray⟩:=by
 apply ByteArray.ext
 simp
theorem n6 (l:List UInt8):(⟨l.toArray⟩:ByteArray).size=l.length:=by simp[ByteArray.size]
theorem M6 (l m:List UInt8) (h:l.length+m.length<9223372036854775807):I2 .add (.string ⟨l.toArray⟩) (.string ⟨m.toArray⟩)=some (.string ⟨(l++m).toArray⟩):=by
 rw[ZS _ _ (by rw[n6,n6];exact h),zH]
theorem DP (k:Nat) (h:k<256):IntKind.wrap .u8 (k:Int)=k:=by
 simp[IntKind.wrap,IntKind.signed,IntKind.bits]
 omega
theorem RW {H:D2} {o t:Nat} {g z:Bool} (k:Nat) (hk:k<256) (h:f6 H o=some (.row t 1 g z [.sc (.int .u8 (k:Int))])) (c:Nat):ZR H (.ref o 0 1 c)=some (.sc (.string ⟨[UInt8.ofNat k].toArray⟩)):=
 aS2 (L:= [UInt8.ofNat k]) (g:=g) (z:=z) (t:=t) (by rw[List.map_cons,List.map_nil,bT7 k hk];exact h) c
def r4 (c:UInt8):List UInt8→List (List UInt8)
 | []=> [[]]
 |b::r=>if b=c then []::r4 c r else match r4 c r with
   | []=> [[b]]
   |w::ws=>(b::w)::ws
def join (c:UInt8):List (List UInt8)→List UInt8
 | []=> []
 | [w]=>w
 |w::v::ws=>w++c::join c (v::ws)
theorem nZ (c:UInt8):∀ s,r4 c s ≠ []
 | []=>by simp[r4]
 |b::r=>by
  simp only[r4]
  split
  ·simp
  ·split<;>simp
theorem U9 {c:UInt8}:∀ {s:List UInt8},c ∉ s→r4 c s= [s]
 | [],_=>rfl
 |b::r,h=>by
  rw[List.mem_cons,not_or] at h
  have ih:=U9 h.2
  simp only[r4]
  rw[if_neg (fun e=>h.1 e.symm),ih]
theorem M3 {c:UInt8}:∀ {a:List UInt8} (r:List UInt8),c ∉ a→r4 c (a++c::r)=a::r4 c r
 | [],r,_=>by simp[r4]
 |b::a,r,h=>by
  rw[List.mem_cons,not_or] at h
  have ih:=M3 r h.2
  rw[List.cons_append,r4,if_neg (fun e=>h.1 e.symm),ih]
theorem P1 (c:UInt8):∀ s:List UInt8,c ∉ s∨∃ a r,s=a++c::r∧c ∉ a
 | []=> .inl (by simp)
 |b::s=>by
  by_cases h:b=c
  ·subst h;exact .inr ⟨[],s,rfl,by simp⟩
  ·rcases P1 c s with h2|⟨a,r,rfl,h2⟩
   ·exact .inl (by rw[List.mem_cons,not_or];exact ⟨fun e=>h e.symm,h2⟩)
   ·exact .inr ⟨b::a,r,rfl,by rw[List.mem_cons,not_or];exact ⟨fun e=>h e.symm,h2⟩⟩
theorem lS {c:UInt8}:∀ {ws:List (List UInt8)},ws ≠ []→(∀ w ∈ ws,c ∉ w)→r4 c (join c ws)=ws
 | [],h,_=>absurd rfl h
 | [w],_,h=>U9 (h w (by simp))
 |w::v::ws,_,h=>by
  rw[join,M3 _ (h w (by simp)),lS (by simp) fun x hx=>h x (List.mem_cons_of_mem _ hx)]
theorem cI {c:UInt8}:∀ (ws:List (List UInt8)) (w:List UInt8),ws ≠ []→join c (ws++ [w])=join c ws++c::w
 | [],w,h=>absurd rfl h
 | [v],w,_=>rfl
 |v::u::ws,w,_=>by
  have:=cI (c:=c) (u::ws) w (by simp)
  simp only[List.cons_append,join,List.append_assoc] at this ⊢
  rw[this]
theorem words_len {c:UInt8}:∀ (n:Nat) {s:List UInt8},s.length≤n→(r4 c s).length≤s.length+1∧∀ w ∈ r4 c s,w.length≤s.length
 |n,s,hn=>by
  rcases P1 c s with h|⟨a,r,rfl,h⟩
  ·rw[U9 h];simp
  ·rw[M3 r h]
   cases n with
   |zero=>simp at hn
   |succ n=>
    have ih:=words_len (c:=c) n (s:=r) (by simp at hn;omega)
    refine ⟨by simp only[List.length_cons,List.length_append];omega,fun w hw=>?_⟩
    rcases List.mem_cons.1 hw with rfl|hw
    ·simp only[List.length_cons,List.length_append];omega
    ·have:=ih.2 w hw
     simp only[List.length_cons,List.length_append];omega
theorem oR (l:List UInt8) (i j:Nat):(⟨l.toArray⟩:ByteArray).extract i j=⟨((l.drop i).take (j - i)).toArray⟩:=by
 apply ByteArray.ext
 apply Array.ext'
 rw[ByteArray.data_extract]
 simp
theorem XP (k:IntKind) (z:Int) (n:Nat) (h0:0≤z) (h1:z<n):u6 (.int k z) n=some z.toNat:=by
 simp only[u6];rw[if_pos ⟨h0,h1⟩]
theorem iM (k:IntKind) (z:Int) (d n:Nat) (h0:0≤z) (h1:z≤n):p6 (some (.int k z)) d n=some z.toNat:=by
 simp only[p6];rw[if_pos ⟨h0,h1⟩]
theorem R6 (l:List UInt8) (k:IntKind) (z:Int) (h0:0≤z) (h1:z<l.length):rZ (.sc (.string ⟨l.toArray⟩)) (.sc (.int k z))=some (.sc (.int .u8 (l[z.toNat]!).toNat)):=by
 simp only[rZ]
 rw[XP _ _ _ h0 (by rw[n6];exact h1)]
 have hz:z.toNat<l.length:=by omega
 simp only[Option.bind_some,w5,List.getElem?_eq_getElem hz]
 rw[getElem!_pos l z.toNat hz]
theorem pR (l:List UInt8) (k j:IntKind) (a b:Int) (h0:0≤a) (h1:a≤b) (h2:b≤l.length):rK (some (.int k a)) (some (.int j b)) (.sc (.string ⟨l.toArray⟩))=some (.sc (.string ⟨((l.drop a.toNat).take (b.toNat - a.toNat)).toArray⟩)):=by
 simp only[rK]
 rw[iM _ _ _ _ (by omega) (by rw[n6];exact h2),Option.bind_some,iM _ _ _ _ h0 (by omega),Option.bind_some,oR]
theorem nU (l:List UInt8) (j:IntKind) (b:Int) (h0:0≤b) (h2:b≤l.length):rK none (some (.int j b)) (.sc (.string ⟨l.toArray⟩))=some (.sc (.string ⟨(l.take b.toNat).toArray⟩)):=by
 simp only[rK]
 rw[iM _ _ _ _ (by omega) (by rw[n6];exact h2),Option.bind_some,show p6 none 0 b.toNat=some 0 from rfl,Option.bind_some,oR]
 simp
theorem dT (l:List UInt8) (k:IntKind) (a:Int) (h0:0≤a) (h1:a≤l.length):rK (some (.int k a)) none (.sc (.string ⟨l.toArray⟩))=some (.sc (.string ⟨(l.drop a.toNat).toArray⟩)):=by
 simp only[rK]
 rw[show p6 none (ByteArray.mk l.toArray).size (ByteArray.mk l.toArray).size=some l.length by rw[n6];rfl,Option.bind_some,iM _ _ _ _ h0 (by omega),Option.bind_some,oR]
 rw[List.take_of_length_le (by simp)]
theorem bS (l m:List UInt8):((⟨l.toArray⟩:ByteArray)=⟨m.toArray⟩)=(l=m):=by
 refine propext ⟨fun h=>?_,fun h=>by rw[h]⟩
 have:=congrArg (fun b:ByteArray=>b.data.toList) h
 simpa using this
theorem bY3 (l m:List UInt8):I2 .eql (.string ⟨l.toArray⟩) (.string ⟨m.toArray⟩)=some (.bool (decide (l=m))):=by
 rw[ED]
 have:(ByteArray.mk l.toArray=ByteArray.mk m.toArray)↔l=m:=by
  constructor
  ·intro h
   have:=congrArg (fun b:ByteArray=>b.data.toList) h
   simpa using this
  ·rintro rfl;rfl
 simp only[this]
theorem H9.env {E E':C7} {f:FuncId} {st:l6} {xs:List V} {v:V} (h:H9 E f st xs v) (hp:E'.pcall=E.pcall) (ho:E'.old=E.old):H9 E' f st xs v:=by
 have ha:p5 E'=p5 E:=OZ ho
 intro s μ F xsI w0 hsr hx
 have hw:v6 (C1 E' s w0) ⟨st.own,st.next,st.next⟩ ⟨s.heap,s.next,s.next⟩ μ F=v6 (C1 E s w0) ⟨st.own,st.next,st.next⟩ ⟨s.heap,s.next,s.next⟩ μ F:=by
  show (⟨p5 E' s.heap,F,μ,st.next⟩:VW)=⟨p5 E s.heap,F,μ,st.next⟩
  rw[ha]
 have hsr':SR (C1 E s w0) ⟨st.own,st.next,st.next⟩ ⟨s.heap,s.next,s.next⟩ μ F:=hsr.env (C':=C1 E s w0) ha.symm rfl rfl rfl
 obtain ⟨vI,e,hv⟩:=h s μ F xsI w0 hsr' (by rw[← hw];exact hx)
 exact ⟨vI,by rw[hp];exact e,hv⟩
theorem DN {C:D7} {fr:B8} {own own':D2} {nx ro:Nat} (h:∀ o ob,f6 own' o=some ob→f6 own o=some ob):Q8 C fr ⟨own,nx,ro⟩ fr ⟨own',nx,ro⟩:=by
 rintro s frI ⟨μ,F,h1,hf,h3,h4,h5⟩
 let μ':Nat→Option Nat:=fun o=>if (f6 own' o).isSome then μ o else none
 have hμ:∀ o b,μ' o=some b→μ o=some b∧∃ ob,f6 own' o=some ob:=fun o b e=>by
  simp only[μ'] at e
  split at e
  ·rename_i hs;exact ⟨e,Option.isSome_iff_exists.1 hs⟩
  ·cases e
 have hμ2:∀ o b ob,f6 own' o=some ob→μ o=some b→μ' o=some b:=fun o b ob e1 e2=>by
  simp only[μ',e1,Option.isSome_some,if_true];exact e2
 have hle:VW.le (v6 C ⟨own,nx,ro⟩ s μ F) (v6 C ⟨own',nx,ro⟩ s μ' F):=⟨fun _ _=>rfl,fun _ hb=>hb,Nat.le_refl _,fun o b _ e=>(hμ o b e).1⟩
 refine ⟨μ',F,⟨?_,?_,?_,?_,?_,h1.lt,h1.cl,h1.un,h1.n0,?_,h1.hb,h1.pr,?_⟩,hf.mono hle,h3.trans hle,h4,h5⟩
 ·intro o ob e hn
  obtain ⟨b,blk,m1,m2,m3⟩:=h1.obj o ob (h o ob e) hn
  exact ⟨b,blk,hμ2 o b ob e m1,m2,m3.mono hle⟩
 ·intro o ob b e e2 hz
  exact h1.wr o ob b (h o ob e) (hμ o b e2).1 hz
 ·intro o ob b e e2 hz
  exact h1.fz o ob b (h o ob e) (hμ o b e2).1 hz
 ·intro o o' b e e'
  exact h1.inj o o' b (hμ o b e).1 (hμ o' b e').1
 ·intro o b e
  obtain ⟨e1,ob,e2⟩:=hμ o b e
  obtain ⟨d1,d2,ob',d3,d4⟩:=h1.dom o b e1
  have:=h o ob e2
  rw[d3] at this
  cases this
  exact ⟨d1,d2,_,e2,d4⟩
 ·intro o ob e
  exact h1.own o ob (h o ob e)
 ·intro o b e hr
  exact h1.pb o b (hμ o b e).1 hr
section
variable {C:D7} {st:l6} {fr:B8}
end
end Go.Itp
namespace Go.Itp
open Go.Lib
set_option linter.unusedVariables false
def y7 (b:UInt8):Bool:=decide (48≤b.toNat) && decide (b.toNat≤57)
theorem Y7 {d:Nat} (h:d<10):y7 (UInt8.ofNat (48+d))=true∧(UInt8.ofNat (48+d)).toNat=48+d:=by
 have:(UInt8.ofNat (48+d)).toNat=48+d:=UInt8.toNat_ofNat_of_lt' (by unfold UInt8.size;omega)
 refine ⟨?_,this⟩
 simp only[y7,this,Bool.and_eq_true,decide_eq_true_eq]
 omega
theorem kW:∀ (n u:Nat),u≤n→∀ c ∈ decDigits u,y7 c=true
 |n,u,hn,c,hc=>by
  rw[decDigits] at hc
  split at hc
  ·rw[List.mem_singleton.1 hc];exact (Y7 (by omega)).1
  ·rcases List.mem_append.1 hc with hc|hc
   ·cases n with
    |zero=>omega
    |succ n=>exact kW n (u / 10) (by omega) c hc
   ·rw[List.mem_singleton.1 hc];exact (Y7 (by omega)).1
theorem uS {z:Int} (h:0≤z):∀ c ∈ itoa z,y7 c=true:=by
 obtain ⟨u,rfl⟩:=Int.eq_ofNat_of_zero_le h
 rw[itoa_nonneg]
 exact kW u u (Nat.le_refl _)
theorem Y0 (u:Nat):decDigits u ≠ []:=by rw[decDigits];split<;>simp
theorem sA {z:Int}:itoa z ≠ []:=by unfold itoa;split;simp;exact Y0 _
theorem fD:∀ (l m:List UInt8) (acc:Nat),decFrom acc (l++m)=(decFrom acc l).bind fun a=>decFrom a m
 | [],m,acc=>rfl
 |b::r,m,acc=>by
  simp only[List.cons_append,decFrom]
  cases digitVal b with
  |none=>rfl
  |some d=>exact fD r m _
theorem fF {d:Nat} (h:d<10):digitVal (UInt8.ofNat (48+d))=some d:=by
 unfold digitVal
 rw[(Y7 h).2,if_pos (by omega)]
 congr 1
 omega
theorem K7:∀ (n u:Nat),u≤n→decFrom 0 (decDigits u)=some u
 |n,u,hn=>by
  rw[decDigits]
  split
  ·rename_i h
   simp only[decFrom,fF h]
   congr 1
   omega
  ·cases n with
   |zero=>omega
   |succ n=>
    rw[fD,K7 n (u / 10) (by omega)]
    simp only[Option.bind_some,decFrom,fF (show u % 10<10 by omega)]
    congr 1
    omega
theorem yM {u v:Nat} (h:decDigits u=decDigits v):u=v:=by
 have h1:=K7 u u (Nat.le_refl _)
 rw[h,K7 v v (Nat.le_refl _)] at h1
 exact (Option.some.inj h1).symm
theorem aF7 {x y:Int} (hx:0≤x) (hy:0≤y) (h:itoa x=itoa y):x=y:=by
 obtain ⟨u,rfl⟩:=Int.eq_ofNat_of_zero_le hx
 obtain ⟨v,rfl⟩:=Int.eq_ofNat_of_zero_le hy
 rw[itoa_nonneg,itoa_nonneg] at h
 rw[yM h]
theorem HS (u:Nat) (h:(decDigits u).length≤18):atoiAll (decDigits u)= .ok (u:Int):=by
 rw[atoiAll_short _ h]
 have hd:=kW u u (Nat.le_refl _)
 have hf:=K7 u u (Nat.le_refl _)
 cases hw:decDigits u with
 |nil=>exact absurd hw (Y0 u)
 |cons b r=>
  rw[hw] at hd hf
  have hb:=hd b (by simp)
  simp only[y7,Bool.and_eq_true,decide_eq_true_eq] at hb
  have n1:¬ b=45:=by rintro rfl;simp at hb
  have n2:¬ b=43:=by rintro rfl;simp at hb
  have e1:(b==45)=false:=by simpa using n1
  have e2:(b==43)=false:=by simpa using n2
  simp only[atoi,e1,e2,decNat,List.isEmpty_cons,hf]
  rfl
theorem bQ:∀ (k u:Nat),u<10 ^ (k+1)→(decDigits u).length≤k+1
 |0,u,h=>by rw[decDigits,dif_pos (by simpa using h)];simp
 |k+1,u,h=>by
  rw[decDigits]
  split
  ·simp
  ·have:=bQ k (u / 10) (by rw[Nat.pow_succ] at h;omega)
   simp;omega
theorem WP {z:Int} (h:0≤z) (h1:z<1000000000000):atoiAll (itoa z)= .ok z:=by
 obtain ⟨u,rfl⟩:=Int.eq_ofNat_of_zero_le h
 rw[itoa_nonneg]
 exact HS u (by have:=bQ 11 u (by simpa using (by omega:u<1000000000000));omega)
end Go.Itp
namespace Go.Itp
open Go.ChangeShapes Go.WideShapes Go.ChangeAt Go.RowKit
set_option linter.unusedVariables false
theorem SN {α β:Type} {g:α→List β} {q:Nat} (hq:0<q):∀ (l:List α),(∀ a ∈ l,(g a).length=q)→∀ i j,j<q→(l.flatMap g)[i*q+j]? =(l[i]?).bind fun a=>(g a)[j]?
 | [],_,i,j,_=>by simp
 |a::r,h,i,j,hj=>by
  have ha:=h a (by simp)
  rw[List.flatMap_cons]
  cases i with
  |zero=>
   rw[Nat.zero_mul,Nat.zero_add,List.getElem?_append_left (by omega)]
   simp
  |succ i=>
   have ih:=SN hq r (fun b hb=>h b (List.mem_cons_of_mem _ hb)) i j hj
   rw[Nat.succ_mul,List.getElem?_append_right (by rw[ha];omega),ha,show i*q+q+j - q=i*q+j by omega,ih]
   simp
theorem RV {v:Value} (h:A9 v=true):DW v=v:=by
 unfold DW
 split
 ·simp[A9] at h
 ·rfl
section
variable {H:Type} {enc:TypeId × Value→H} {P:Program} {W:World} {base:Nat} {held:Bool}
theorem aA8 {w:World} {b:Nat} {a:Addr} {n:Nat} {cs:List Value} (h:w.cells? b a n=some cs):cs.length=n∧∀ j,j<n→w.cell? (a.add j)=cs[j]? :=by
 unfold World.cells? at h
 split at h
 case isFalse=>cases h
 refine ⟨by rw[Lib.mapM_length h,List.length_range],fun j hj=>?_⟩
 obtain ⟨c,h1,h2⟩:=Lib.mapM_at h j j (by rw[List.getElem?_eq_getElem (by simpa using hj)];simp)
 rw[h2,h1]
theorem QQ {α:Type} [Inhabited α] {g:α→List Value} {q:Nat} (hq:0<q) (hg:∀ a,(g a).length=q∧∀ c ∈ g a,A9 c=true) {t e:TypeId} {fuel:Nat} {v:Value} {x:DataW H × List MemPlace} (ht:P.underlying t=some (.slice e)) (hc:P.cellsOf e=q) (hby:0<P.bytesOf e)
  (hspot:∀ a n c,v= .slice (some a) n c→a.spot=none)
  (h:DataW.trod enc P W base (fun _=>true) held fuel t [v]=some x) (hsz:∀ n ∈ x.1.weights P t,n≤reachBytes)
  (hdec:∀ (cs:List Value) (n:Nat) (y:DataW H × List MemPlace),cs.length=q→DataW.trod enc P W base (fun _=>true) held n e cs=some y→∃ a,cs=g a):
  ∃ l:List α,b7 (ZG (aK W)) (.sl 3 l.length (l.flatMap fun a=>(g a).map D.sc)) v∧p8 0 v= []∧l.length*P.bytesOf e≤reachBytes:=by
 rcases DataW.trod_slice ht h with ⟨h1,_⟩|⟨a,len,cap,elems,rest,n,rfl,h1,rfl,hb,hl,hm,hlen,hel,hsp,_⟩
 ·simp only[List.cons.injEq,and_true] at h1
  subst h1
  refine ⟨[],?_,rfl,by simp⟩
  simp only[b7,w9]
  exact .inr ⟨by omega,by trivial,by trivial,.inl (by trivial)⟩
 ·simp only[List.cons.injEq,and_true] at h1
  subst h1
  have hs:=hspot a len cap rfl
  obtain ⟨b,o,sp⟩:=a
  simp only at hs
  subst hs
  obtain ⟨hr1,hr2⟩:=hsp rfl
  have hmax:cap*P.bytesOf e≤reachBytes:=by
   have:=hsz ((elems.length+rest.length)*P.bytesOf e) (by simp[DataW.weights,ht])
   rwa [show elems.length+rest.length=cap by omega] at this
  have hcap:cap≤cap*P.bytesOf e:=Nat.le_mul_of_pos_right _ hby
  have hbig:reachBytes<s6:=by decide
  have hone:∀ i,∃ a:α,i<len→∀ j,j<q→W.cell? ⟨b,o+(i*q+j),none⟩=(g a)[j]? :=fun i=>by
   by_cases hi:i<len
   ·have:=hel i hi
    rw[hc,List.getElem?_eq_getElem (by omega)] at this
    simp only[Option.bind_eq_some_iff] at this
    obtain ⟨cs,h2,h3⟩:=this
    obtain ⟨k1,k2⟩:=aA8 h2
    obtain ⟨a,rfl⟩:=hdec cs n _ k1 h3
    refine ⟨a,fun _ j hj=>?_⟩
    have:=k2 j hj
    rw[← this]
    rw[add_plain,add_plain,Nat.add_assoc]
   ·exact ⟨default,fun h=>absurd h hi⟩
  let f:Nat→α:=fun i=>Classical.choose (hone i)
  have hf:∀ i,i<len→∀ j,j<q→W.cell? ⟨b,o+(i*q+j),none⟩=(g (f i))[j]? :=fun i=>Classical.choose_spec (hone i)
  let l:List α:=(List.range len).map f
  have hll:l.length=len:=by simp[l]
  let vals:List Value:=l.flatMap g
  have hvl:vals.length=len*q:=by
   have:∀ l:List α,(l.flatMap g).length=l.length*q:=fun l=>by
    induction l with
    |nil=>simp
    |cons a l ih=>rw[List.flatMap_cons,List.length_append,ih,(hg a).1,List.length_cons,Nat.succ_mul];omega
   rw[show vals.length=l.length*q from this l,hll]
  have hcell:∀ k (hk:k<vals.length),W.cell? ⟨b,o+k,none⟩=some vals[k]:=fun k hk=>by
   rw[hvl] at hk
   have hi:k / q<len:=Nat.div_lt_of_lt_mul (by rw[Nat.mul_comm];exact hk)
   have hj:k % q<q:=Nat.mod_lt _ hq
   have hkk:k / q*q+k % q=k:=by rw[Nat.mul_comm];exact Nat.div_add_mod k q
   have e1:=hf (k / q) hi (k % q) hj
   have e2:=SN (g:=g) hq l (fun a _=>(hg a).1) (k / q) (k % q) hj
   rw[hkk] at e1 e2
   have e3:l[k / q]? =some (f (k / q)):=by simp[l,hi]
   rw[e3,Option.bind_some] at e2
   rw[e1,← e2]
   exact List.getElem?_eq_getElem (by rw[hvl];exact hk)
  have hvs:∀ c ∈ vals,A9 c=true:=fun c hcm=>by
   simp only[vals,List.mem_flatMap] at hcm
   obtain ⟨a,_,ha⟩:=hcm
   exact (hg a).2 c ha
  have hmap:(l.flatMap fun a=>(g a).map D.sc)=vals.map D.sc:=by simp only[vals,List.map_flatMap]
  refine ⟨l,?_,rfl,by rw[hll];exact Nat.le_trans (Nat.mul_le_mul_right _ hl) hmax⟩
  rw[hmap,hll]
  simp only[b7,w9]
  refine .inl ⟨⟨b,o,none⟩,cap,rfl,trivial,?_,?_,by omega⟩
  ·unfold D9 u7
   rw[if_pos (by rw[Nat.blt_eq];omega)]
   exact hl
  ·have:=zV (W:=ZG (aK W)) (α:=Value) D.sc (fun v=>v) vals ⟨b,o,none⟩ (fun k hk=>?_) (fun c hcm=>by simp only[w9];exact ⟨trivial,hvs c hcm⟩)
   ·exact this
   ·have hc1:=hcell k hk
    have hsc:=hvs vals[k] (List.getElem_mem hk)
    have:=WM hc1 (aQ 0 _ hsc) (RV hsc)
    rw[RV hsc] at this
    exact this
end
end Go.Itp
namespace Go.Itp
open Go.Lib
set_option linter.unusedVariables false

end Go.Itp
namespace Go.Itp
open Go.RowKit (Below)
set_option linter.unusedVariables false
set_option linter.constructorNameAsVariable false
def xD:List Value→Option (List ByteArray)
 | []=>some []
 | .string b::r=>(xD r).map (b::·)
 |_=>none
theorem xE:∀ {cs:List Value} {bs:List ByteArray},xD cs=some bs→cs=bs.map Value.string
 | [],bs,h=>by simp[xD] at h;subst h;rfl
 |c::r,bs,h=>by
  unfold xD at h
  split at h
  ·rename_i heq;cases heq
  ·rename_i heq
   simp only[List.cons.injEq] at heq
   obtain ⟨rfl,rfl⟩:=heq
   simp only[Option.map_eq_some_iff] at h
   obtain ⟨bs',h1,rfl⟩:=h
   rw[xE h1];rfl
  ·cases h
theorem CR:∀ (bs:List ByteArray),xD (bs.map Value.string)=some bs
 | []=>rfl
 |b::r=>by simp only[List.map_cons,xD,CR r,Option.map_some]
def bG0 (old:Nat→Nat→Option Value):C7:=D5 old 0 (fun _=>none) (fun _ _ _=>none) 0
def TT (bs:List ByteArray) (sep:ByteArray):List UInt8:=Lib.join (bs.map (·.data.toList)) sep.data.toList
def AT (old:Nat→Nat→Option Value) (f0:FuncId) (f:FuncId) (xs:List Value) (s:St):Option (Value × List r7):=
 if Nat.beq f f0 then (match xs with
  | [.slice a n c,.string sep]=>if Nat.beq n 0 then some (.string ⟨#[]⟩,[]) else if Nat.ble n (u7 c) && Nat.ble n o9 then
    (m6 (bG0 old) s.heap 1 n (.slice a n c)).bind fun cs=>(xD cs).bind fun bs=>if Nat.ble (TT bs sep).length 140737488355328 then some (.string ⟨(TT bs sep).toArray⟩,[]) else none
   else none
  |_=>none) else none
section
variable {P:Program} {G:s5} {μ:Mu} {s:St} {w:World}
theorem NN:∀ {bs:List ByteArray} {cs:List Value},B0 μ (bs.map Value.string)=some cs→cs=bs.map Value.string
 | [],cs,h=>by simp[B0] at h;subst h;rfl
 |b::r,cs,h=>by
  simp only[List.map_cons,B0,tr,Option.bind_some,Option.map_eq_some_iff] at h
  obtain ⟨cs',h1,rfl⟩:=h
  rw[NN h1];rfl
theorem aF9 {old:Nat→Nat→Option Value} {f0:FuncId} {w0:World} (hen:DR P f0) (hold:X7 (bG0 old) w0)
  (h0:∀ (a:Option Addr) (c:Nat) (sep:ByteArray) (w:World),Calls P f0 #[.slice a 0 c,.string sep] w fun e w'=>e= .returned (.string ⟨#[]⟩)∧w'=w)
  (h1:∀ (bk o c:Nat) (xs:List ByteArray) (sep:ByteArray) (w:World) (_:∀ (j:Nat) x,xs[j]? =some x→w.cell? ⟨bk,o+j,none⟩=some (.string x))
   (_:bk<w.heap.size) (_:xs.length≤140737488355328) (_:xs.length≤c) (_:(Lib.join (xs.map (·.data.toList)) sep.data.toList).length≤140737488355328),
   Calls P f0 #[.slice (some ⟨bk,o,none⟩) xs.length c,.string sep] w fun e w'=>e= .returned (.string ⟨(Lib.join (xs.map (·.data.toList)) sep.data.toList).toArray⟩)∧Below w.heap.size w w'):O6 P (AT old f0) w0:=by
 intro f xs s v bs h G μ w cs hG hr hx
 unfold AT at h
 split at h
 case isFalse=>cases h
 rename_i hf
 have:=f5.1 hf
 subst this
 split at h
 case h_2=>cases h
 rename_i a n c sep
 simp only[B0,Option.bind_eq_some_iff,Option.map_eq_some_iff] at hx
 obtain ⟨x1,hx1,cs1,⟨x2,hx2,cs2,hcs2,rfl⟩,rfl⟩:=hx
 simp at hcs2
 subst hcs2
 have:x2= .string sep:=by simp[tr] at hx2;exact hx2.symm
 subst this
 obtain ⟨qa,k',rfl,e2,e3⟩:=B7 hx1
 split at h
 ·rename_i hn
  have:=f5.1 hn
  subst this
  simp only[Option.some.injEq,Prod.mk.injEq] at h
  obtain ⟨rfl,rfl⟩:=h
  exact bG hen hr ((h0 qa k' sep w).mono fun e w' ⟨he,hw⟩=>⟨he,hw▸Below.refl _ _⟩) rfl
 rename_i hn
 have hn:n ≠ 0:=fun e=>hn (f5.2 e)
 split at h
 case isFalse=>cases h
 rename_i hc
 rw[Bool.and_eq_true,Nat.ble_eq,Nat.ble_eq] at hc
 obtain ⟨hc,hroom⟩:=hc
 simp only[Option.bind_eq_some_iff] at h
 obtain ⟨vs,hvs,ls,hls,h⟩:=h
 split at h
 case isFalse=>cases h
 rename_i hlen
 rw[Nat.ble_eq] at hlen
 simp only[Option.some.injEq,Prod.mk.injEq] at h
 obtain ⟨rfl,rfl⟩:=h
 cases a with
 |none=>
  simp only[m6] at hvs
  rw[if_neg (fun e=>hn (f5.1 e))] at hvs
  cases hvs
 |some a=>
 simp only[m6,Nat.mul_one] at hvs
 obtain ⟨bk,o,rfl⟩:=B6 e2
 obtain ⟨cs,c1,c2,c3⟩:=hr.loadN (by rw[hG];exact hold) hvs e2
 have hvs':=xE hls
 subst hvs'
 have hcs:=NN c1
 subst hcs
 rw[List.length_map] at c2
 subst c2
 have hcell:∀ (j:Nat) x,ls[j]? =some x→w.cell? ⟨bk,o+j,none⟩=some (.string x):=fun j x hj=>by
  have:=c3 j (.string x) (by rw[List.getElem?_map,hj];rfl)
  have e:(⟨bk,o,none⟩:Addr).add j=⟨bk,o+j,none⟩:=by cases j<;>rfl
  rw[e] at this
  exact this
 have hcap:ls.length≤k':=by
  rw[C0] at hc
  obtain ⟨b,oo,sp⟩:=a
  cases sp with
  |none=>
   simp only[X8,Option.some.injEq] at e3
   subst e3
   split at hc<;>omega
  |some sp=>
   simp only[X8] at e3
   split at e3
   ·rename_i h;simp only[Option.some.injEq] at e3;subst e3;rw[if_pos h] at hc;exact hc
   ·rename_i h
    rw[if_neg h] at hc
    simp only[Option.map_eq_some_iff] at e3
    obtain ⟨l,_,rfl⟩:=e3
    omega
 have hbk:bk<w.heap.size:=by
  have:=hcell 0 ls[0]! (by rw[getElem!_pos ls 0 (by omega)];exact List.getElem?_eq_getElem (by omega))
  exact World.block_lt_of_cell? _ _ this
 exact bG hen hr (h1 bk o k' ls sep w hcell hbk (by unfold o9 at hroom;omega) hcap hlen) rfl
end
theorem GM {E E':C7} (h:E.old=E'.old) (hp:j5) (e n:Nat) (x:Value):m6 E hp e n x=m6 E' hp e n x:=by
 have hN:∀ b m o,pG E b o m=pG E' b o m:=fun b m=>by
  induction m with
  |zero=>intro o;rfl
  |succ m ih=>intro o;simp only[pG,h,ih]
 unfold m6
 split
 ·rename_i a _ _
  unfold E0
  split
  ·exact hN _ _ _
  ·rfl
  ·rfl
 all_goals rfl
def sD (x:List UInt8):D:= .sc (.string ⟨x.toArray⟩)
theorem aL9 (x:List UInt8):dv (sD x)= .sc (.string ⟨x.toArray⟩):=(rfl)
theorem NE {w:VW}:∀ {ls:List (List UInt8)} {vs:List Value},i7 w (ls.map sD) vs→vs=(ls.map fun x=>ByteArray.mk x.toArray).map Value.string
 | [],vs,h=>by simpa only[List.map_nil,i7] using h
 |x::r,vs,h=>by
  simp only[List.map_cons,i7,sD,w9] at h
  obtain ⟨v,vs',rfl,⟨rfl,_⟩,h2⟩:=h
  rw[NE h2];rfl
section
variable {old:Nat→Nat→Option Value} {rounds:Nat} {fns:FuncId→Option n9} {prims:FuncId→List Value→St→Option (Value × List r7)} {n:Nat} {f:FuncId}
theorem aU3 (ls:List (List UInt8)) (sep:List UInt8):TT (ls.map fun x=>ByteArray.mk x.toArray) ⟨sep.toArray⟩=Lib.join ls sep:=by
 unfold TT
 congr 1
 rw[List.map_map]
 exact (List.map_congr_left (fun x _=>by simp)).trans (List.map_id _)
theorem bH2 {st:l6} (s:Nat) (hs:s ≠ 1) (ls:List (List UInt8)) (sep:List UInt8) (hl:ls.length≤1099511627776) (hlen:(Lib.join ls sep).length≤140737488355328) (hp:∀ xs s r,AT old f f xs s=some r→prims f xs s=some r):
  H9 (D5 old rounds fns prims (n+1)) f st [.sl s ls.length (ls.map sD),.sc (.string ⟨sep.toArray⟩)] (.sc (.string ⟨(Lib.join ls sep).toArray⟩)):=by
 intro s1 μ F xsI w0 hsr hx
 simp only[d8] at hx
 obtain ⟨x1,_,rfl,hx1,x2,_,rfl,hx2,rfl⟩:=hx
 have hx1':=hx1
 have:=hx2.scv
 subst this
 refine ⟨.string ⟨(Lib.join ls sep).toArray⟩,?_,fun w=> .mksc rfl⟩
 have hcall:AT old f f [x1,.string ⟨sep.toArray⟩] s1=some (.string ⟨(Lib.join ls sep).toArray⟩,[]):=by
  unfold AT
  rw[if_pos (f5.2 rfl)]
  simp only[b7,w9] at hx1'
  rcases hx1' with ⟨a,c,rfl,_,hcap,_,_⟩|⟨_,h0,h1,rfl|⟨h,_⟩⟩
  ·simp only
   by_cases hn:ls.length=0
   ·rw[if_pos (f5.2 hn)]
    have:ls= []:=List.eq_nil_of_length_eq_zero hn
    subst this
    rfl
   rw[if_neg (fun e=>hn (f5.1 e))]
   rw[if_pos (by rw[Bool.and_eq_true,Nat.ble_eq,Nat.ble_eq];exact ⟨hcap,by unfold o9;exact hl⟩)]
   obtain ⟨cs,k1,k2⟩:=(S1 (e:=1) (m:=ls.length) (r:=(ls.map sD,[])) hsr.hr hx1 (by
    simp only[H5]
    rw[if_pos ⟨by simp,Nat.le_refl _⟩,Nat.mul_one,List.take_of_length_le (by simp)]) (fun m hm=>by simp only[N9] at hm;cases hm;exact Nat.le_refl _)).plain hsr.hr rfl
   rw[GM (E':=bG0 old) (by rfl)] at k1
   rw[k1]
   have:=NE k2
   subst this
   simp only[Option.bind_some,CR,aU3]
   rw[if_pos (by rw[Nat.ble_eq];exact hlen)]
  ·simp only
   rw[if_pos (f5.2 rfl)]
   have:ls= []:=by simpa using h1
   subst this
   rfl
  ·exact absurd h hs
 rw[fB,hp _ _ _ hcall]
end
theorem k7.ofO {E:C7} {f:FuncId} {xs:List V} {v:V} (h:H9 E f ⟨[],0,0⟩ xs v):k7 E f xs v ⟨[],0,0⟩:=by
 intro s F xsI h1 h2 hx
 have hsr:SR (C1 E s (UE E s.heap F)) ⟨[],0,0⟩ ⟨s.heap,s.next,s.next⟩ (fun _=>none) F:=SR.start h1 h2
 obtain ⟨vI,e,hv⟩:=h s (fun _=>none) F xsI (UE E s.heap F) hsr hx
 exact ⟨vI,[],fun _=>none,F,e,hsr,hv _,fun b hb=> .inl hb,fun b hb=>hb,fun _=>rfl⟩
end Go.Itp
namespace Go.Itp
set_option maxRecDepth 100000
set_option linter.unusedVariables false
section
variable {old : Nat → Nat → Option Value} {fr : B8} {H : D2} {nx : Nat} {st : l6}
end
section
variable {C:D7} {st:l6} {fr:B8}
theorem aM8 {H:D2} {o t n:Nat} {z:Bool} {l:List D} (h:f6 H o=some (.gro t 1 z l)) (hl:l.length=n):y5 H (.gr 2 o n)=some (.sl 2 n l):=by
 simp only[y5,bX,h,Nat.mul_one]
 rw[if_pos ⟨hl,by decide,by decide,by decide⟩]
 rfl
theorem CH {H:D2} {o c t n:Nat} {g z:Bool} {l:List D} (h:f6 H o=some (.row t 1 g z l)) (hl:l.length=n):y5 H (.ref o 0 n c)=some (.sl 0 n l):=by
 simp only[y5,bX,h,Nat.mul_one,Nat.zero_add,hl,Nat.le_refl,if_true,List.drop_zero,Option.map_some,dv]
 rw[List.take_of_length_le (by omega)]
end
section
variable {C:D7} {st:l6} {fr:B8}
end
section
variable {old:Nat→Nat→Option Value}
end
theorem HN {E:C7} {h:j5} {n:Nat} {bs:List r7} {a:Addr} (ha:a.spot=none∨a.block<n):p5 E (u5 h n bs) a=p5 E h a:=by
 obtain ⟨b,o,sp⟩:=a
 rcases sp with _|_|k
 ·rfl
 ·have hb:b<n:=by simpa using ha
  simp only[p5]
  rw[s9,if_neg (by omega)]
 ·rfl
theorem k7.weak {E:C7} {f:FuncId} {xs:List V} {v v':V} {st1 st2:l6} (h:k7 E f xs v st1) (hw:∀ C:D7,C.w0.nx=0→Q8 C [(0,v)] st1 [(0,v')] st2) (hfl:v8 v'=true→v8 v=true):k7 E f xs v' st2:=by
 intro s F xsI hF hb hx
 obtain ⟨vI,bs,μ,G,e,g1,g2,g3,g4,g5⟩:=h s F xsI hF hb hx
 have hle:VW.le (UE E s.heap F) (v6 (C1 E s (UE E s.heap F)) st1 ⟨u5 s.heap s.next bs,s.next+bs.length,s.next⟩ μ G):=by
  refine ⟨fun a ha=>?_,g4,Nat.zero_le _,fun o b ho e=>absurd ho (Nat.not_lt_zero _)⟩
  refine HN ?_
  rcases aF4 ha with h1|h1
  ·exact .inl h1
  ·exact .inr (hF _ h1).1
 obtain ⟨μ',G',k1,k2,k3,k4,k5⟩:=hw (C1 E s (UE E s.heap F)) rfl ⟨u5 s.heap s.next bs,s.next+bs.length,s.next⟩ [(0,vI)] ⟨μ,G,g1,fun t u hu=>by
  by_cases ht:t=0
  ·subst ht
   have:v=u:=by simpa [f6] using hu
   subst this
   exact ⟨vI,rfl,g2⟩
  ·exfalso
   cases t with
   |zero=>exact ht rfl
   |succ t=>simp[f6] at hu,hle,rfl,g3⟩
 obtain ⟨uI,a,b⟩:=k2 0 v' rfl
 have:vI=uI:=by simpa [D3] using a
 subst this
 exact ⟨vI,bs,μ',G',e,k1,b,k5,fun b hb=>k3.F b hb,fun hf=>g5 (hfl hf)⟩
theorem k7.fin {E:C7} {f:FuncId} {xs:List V} {v v':V} {st1:l6} (h:k7 E f xs v st1) (hs:y5 st1.own v=some v') (hrow:C8 st1.ro st1.own (eI v)=true) (hro:st1.ro=0) (hren:W9 [] v'=v') (hfl:v8 v'=true→v8 v=true):k7 E f xs v' ⟨[],0,0⟩:=
 h.weak (fun C h0=>(jS (t:=0) rfl hs hrow).trans (s7 [] 0 h0 hro rfl (by show wG [] [(0,v')]=_;rw[YF,aK7,hren]) rfl)) hfl
theorem r9 {C:D7} {st:l6} {f:FuncId} {xs:List V} {v:V} {Q:V→l6→Prop} (h:k7 C.E f xs v ⟨[],0,0⟩) (hs:L2 st.own xs=some xs) (hz:aD xs= []) (hv:∀ k,DK k v=v) (hq:Q v st):lZ C f xs st Q:=by
 refine aA4 h hs (by rw[hz];rfl) rfl ?_
 rw[hz,hv,kZ]
 exact hq
section
variable {C:D7} {st:l6}
theorem Z6.refl (v:V):Z6 C st v v:=fun _ _ _ _ _ h=>h
def kN (C:D7) (st:l6) (l l':List V):Prop:=∀ s μ F vs,SR C st s μ F→d8 (v6 C st s μ F) l vs→d8 (v6 C st s μ F) l' vs
theorem kN.nil:kN C st [] []:=fun _ _ _ _ _ h=>h
theorem kN.cons {a a':V} {l l':List V} (h:Z6 C st a a') (k:kN C st l l'):kN C st (a::l) (a'::l'):=fun s μ F vs hs hv=>by
 simp only[d8] at hv ⊢
 obtain ⟨u,us,rfl,h1,h2⟩:=hv
 exact ⟨u,us,rfl,h s μ F u hs h1,k s μ F us hs h2⟩
theorem aM2 {l l':List V} (h:kN C st l l'):Z6 C st (.agg l) (.agg l'):=fun s μ F v hs hv=>by
 rw[b7] at hv ⊢
 obtain ⟨vs,h1,h2⟩:=hv
 exact ⟨vs,h1,h s μ F vs hs h2⟩
theorem aM4 {l l':List V} (h:kN C st l l'):Z6 C st (.tup l) (.tup l'):=fun s μ F v hs hv=>by
 rw[b7] at hv ⊢
 obtain ⟨vs,h1,h2⟩:=hv
 exact ⟨vs,h1,h s μ F vs hs h2⟩
end
theorem k7.same {E:C7} {f:FuncId} {xs:List V} {v v':V} {st1:l6} (h:k7 E f xs v st1) (hv:∀ C:D7,Z6 C st1 v v') (hfl:v8 v'=true→v8 v=true):k7 E f xs v' st1:=
 h.weak (fun C _=>Q6 (t:=0) (v:=v) (v':=v') rfl (hv C)) hfl
section
variable {C:D7} {st:l6} {fr:B8}
theorem ZH {v:V} {x y:Value} {s n:Nat} {l:List D} (hs:y5 st.own v=some (.sl s n l)) (hrow:C8 st.ro st.own (eI v)=true) (hk:s ≠ 1∨n ≠ 0) (h0:C.w0.nx=0) (hro:st.ro=0):Q8 C [(0,.tup [v,.sc x,.sc y])] st [(0,.tup [.sl 3 n l,.sc x,.sc y])] ⟨[],0,0⟩:=by
 have e1:eI (.tup [v,.sc x,.sc y])=eI v:=by simp[eI,aD]
 have e2:y5 st.own (.tup [v,.sc x,.sc y])=some (.tup [.sl s n l,.sc x,.sc y]):=by simp[y5,L2,hs]
 refine (jS (t:=0) (v:= .tup [v,.sc x,.sc y]) rfl e2 (by rw[e1];exact hrow)).trans ?_
 refine (Q6 (t:=0) (v:= .tup [.sl s n l,.sc x,.sc y]) (v':= .tup [.sl 3 n l,.sc x,.sc y]) rfl (CD (wP hk) (fun _ _ _ _ _ h=>h))).trans ?_
 exact s7 [] 0 h0 hro rfl rfl rfl
theorem eB {x y:Value} (h0:C.w0.nx=0) (hro:st.ro=0):Q8 C [(0,.tup [.sc (.slice none 0 0),.sc x,.sc y])] st [(0,.tup [.sl 3 0 [],.sc x,.sc y])] ⟨[],0,0⟩:=
 (Q6 (t:=0) (v:= .tup [.sc (.slice none 0 0),.sc x,.sc y]) (v':= .tup [.sl 3 0 [],.sc x,.sc y]) rfl (CD pO (fun _ _ _ _ _ h=>h))).trans (s7 [] 0 h0 hro rfl rfl rfl)
theorem QW {n:Nat} {l:List D} {x y:Value}:eD [] (.tup [.sl 3 n l,.sc x,.sc y]):=jH (by simp only[Cl,OS,and_true];rfl)
end
end Go.Itp
namespace Go.Itp
open Go Go.ChangeShapes
set_option linter.unusedVariables false
section
variable {H:Type} {enc:TypeId × Value→H} {P:Program} {W:World} {base:Nat} {held:Bool}
theorem wf8 {z:Int} (h:(Lit.int .u8 z).wf=true):0≤z∧z<256:=by
 simp[Lit.wf,IntKind.min,IntKind.max,IntKind.signed,IntKind.bits] at h
 omega
end
section
variable {H:Type} {enc:TypeId × Value→H} {P:Program} {W:World} {base:Nat} {held:Bool}
theorem aB7 {e:TypeId} {f0 f1 f2 f3:Field} (he:P.underlying e=some (.struct #[f0,f1,f2,f3])) (o0:f0.offset=0) (o1:f1.offset=1) (o2:f2.offset=2) (o3:f3.offset=3)
  (c0:P.cellsOf f0.type=1) (c1:P.cellsOf f1.type=1) (c2:P.cellsOf f2.type=1) (c3:P.cellsOf f3.type=1)
  (cs:List Value) (n:Nat) (y:DataW H × List MemPlace) (hl:cs.length=4) (h:DataW.trod enc P W base (fun _=>true) held n e cs=some y):
  ∃ (m:Nat) (a0 a1 a2 a3:Value),cs= [a0,a1,a2,a3]∧(∃ y,DataW.trod enc P W base (fun _=>true) held m f0.type [a0]=some y)∧(∃ y,DataW.trod enc P W base (fun _=>true) held m f1.type [a1]=some y)∧(∃ y,DataW.trod enc P W base (fun _=>true) held m f2.type [a2]=some y)∧
   ∃ y,DataW.trod enc P W base (fun _=>true) held m f3.type [a3]=some y:=by
 obtain ⟨a0,a1,a2,a3,rfl⟩:∃ a0 a1 a2 a3,cs= [a0,a1,a2,a3]:=by
  rcases cs with _|⟨a0,_|⟨a1,_|⟨a2,_|⟨a3,_|⟨a4,r⟩⟩⟩⟩⟩<;>simp at hl
  exact ⟨a0,a1,a2,a3,rfl⟩
 cases n with
 |zero=>simp[DataW.trod] at h
 |succ n=>
  unfold DataW.trod at h
  simp only[he] at h
  split at h
  case isFalse=>cases h
  simp only[Option.map_eq_some_iff,List.mapM_cons,List.mapM_nil] at h
  obtain ⟨xs,hx,hd⟩:=h
  simp only[o0,o1,o2,o3,c0,c1,c2,c3,List.drop_zero,List.drop_succ_cons,List.take_succ_cons,List.take_zero] at hx
  refine ⟨n,a0,a1,a2,a3,rfl,?_⟩
  cases h0:DataW.trod enc P W base (fun _=>true) held n f0.type [a0] with
  |none=>simp[h0] at hx
  |some y0=>
  cases h1:DataW.trod enc P W base (fun _=>true) held n f1.type [a1] with
  |none=>simp[h0,h1] at hx
  |some y1=>
  cases h2:DataW.trod enc P W base (fun _=>true) held n f2.type [a2] with
  |none=>simp[h0,h1,h2] at hx
  |some y2=>
  cases h3:DataW.trod enc P W base (fun _=>true) held n f3.type [a3] with
  |none=>simp[h0,h1,h2,h3] at hx
  |some y3=>exact ⟨⟨_,rfl⟩,⟨_,rfl⟩,⟨_,rfl⟩,⟨_,rfl⟩⟩
end
theorem XG {H:Type} {enc:TypeId × Value→H} {a:Assume} {C:Checked} {os:Os} {f:FuncId} {fn:Func} {s:ChangeSpec} {conds:List PathCond} {apart fresh handsOn again:Bool} {X:World→Array Value→Prop}
  (hX:∀ (w w':World) (args:Array Value),w.heap=w'.heap→X w args→X w' args)
  (own:ownKnob C.prog.godebug=none) (started:os.Started) (noInit:C.prog.inits.idxOf? f=none) (hfn:C.prog.funcs[f]? =some fn)
  (witness:∃ (w:World) (tape:Tape) (i:Input),w.os=os∧(w.forCall tape i).Shaped C.prog∧i.vars= []∧Input.okWide C.prog (w.forCall tape i) .any w.heap.size f i∧
   ((s.pre enc C.prog fn conds apart (w.forCall tape i).memory i.args∧X (w.forCall tape i).memory i.args)∧sizedMet enc C.prog fn (OpenSpec.ofChange s) apart (w.forCall tape i).memory i.args)∧a.holds C.prog (lone (Frame.enter C.prog f i.args .normal) [] (w.forCall tape i)))
  (contract:∀ (W:World) (base:Nat) (args:Array Value) (ds gs:List (DataW H)) (before:List MemPlace),
   (∀ (j:Nat) t v,fn.params[j]? =some t→args[j]? =some v→Value.okWide C.prog W .any base t v)→
   DataW.Whole enc C.prog fn.params.toList s.vars apart W args.toList ds gs before→
   (DataW.weightsEach C.prog (fn.params.toList++s.plain.varTypes C.prog) (ds++gs)).all (· ≤reachBytes)=true→X W args→W.ShapedOpen C.prog→
   Calls C.prog f args W fun e W'=>∃ v,e= .returned v∧s.post enc C.prog fn apart fresh handsOn again W args v W'):
  ReturnsInHanded a C os f .any (fun w args=>(s.pre enc C.prog fn conds apart w args∧X w args)∧sizedMet enc C.prog fn (OpenSpec.ofChange s) apart w args) (s.post enc C.prog fn apart fresh handsOn again):=by
 refine returnsInHanded_of_calls own started noInit witness ?_
 intro w tape i _ hsh _ hok hpre hholds
 obtain ⟨_,_,_,fn',hfn',_,_,_,_,hval⟩:=hok
 have e:fn'=fn:=Option.some.inj (hfn'.symm.trans hfn)
 subst e
 obtain ⟨⟨⟨ds,gs,before,hw,_⟩,hx⟩,hz⟩:=hpre
 have hw':=DataW.Whole.of_heap (w':=w.forCall tape i) (by rfl) hw
 refine (contract (w.forCall tape i) w.heap.size i.args ds gs before hval hw' (hz.weights hw) (hX _ _ _ (by rfl) hx) hsh).mono fun e W' ⟨v,he,hp⟩=>?_
 subst he
 exact ChangeSpec.post_blind hp
end Go.Itp
namespace Go.Itp
theorem XY {P:Program} {W:World} {t:TypeId} {fs:Array Field} {b:Nat} {l:List Value} {i:Nat} {c:Value} (ht:P.underlying t=some (.struct fs)) (hv:Value.okWide P W .any b t (.agg l.toArray)) (hc:l[i]? =some c):∃ u,Cell.okWide P W .any b u c:=by
 unfold Value.okWide at hv
 rw[ht] at hv
 obtain ⟨cs,e,hcs,ts,_,_,hrow⟩:=hv
 cases e
 obtain ⟨u,_,hu⟩:=hrow i c (by simpa using hc)
 exact ⟨u,hu⟩
end Go.Itp
